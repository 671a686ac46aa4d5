/-
  THE TIES: each printed meaning is what the program does (written by program).
  Conditions: none.
-/
import Derived.Test.YteifemaagdeomaaGreatDoorGs
set_option linter.unusedVariables false
namespace Go.Proofs.YteifemaagdeomaaGreatDoor
open Go Go.Mach Go.Proofs
set_option maxRecDepth 50000
theorem QW (N:Nat):ab Pg 104 (CE (Gt N)):=by
 refine gfV N (ae _) 0 ?_;intro a k h;unfold PI at h;split at h;exact⟨[],rfl,rfl,.trans (by kernel_rfl) h⟩;cases h
theorem ac_ (N:Nat):ab Pg 135 (TJ (akY N)):=by
 refine gfV N (ae _) 0 ?_;intro a k h;unfold af2 at h;split at h;exact⟨[],rfl,rfl,.trans (by kernel_rfl) h⟩;cases h
theorem acx (N:Nat):ab Pg 136 (Tp (akW N)):=by
 refine gfV N (ae _) 0 ?_;intro a k h;unfold afy at h;split at h;exact⟨[],rfl,rfl,.trans (by kernel_rfl) h⟩;cases h
theorem acw (N:Nat) (aws:BM) (awr:BD) (aBI:ab Pg 135 (TJ aws)) (aBB:ab Pg 136 (Tp awr)):ab Pg 119 (Yc (Zp N aws awr)):=by
 refine gfV N (aa aBI (aa aBB (ae _))) 0 ?_;intro a k h;unfold afx at h;split at h;exact⟨[],rfl,rfl,.trans (by kernel_rfl) h⟩;cases h
theorem ace (N:Nat):ab Pg 137 (Ki (akV N)):=by
 refine gfV N (ae _) 0 ?_;intro a k h;unfold afk at h;split at h;exact⟨[],rfl,rfl,.trans (by kernel_rfl) h⟩;cases h
theorem adh (N:Nat) (awr:BD) (atB:tk) (aBB:ab Pg 136 (Tp awr)) (az8:ab Pg 137 (Ki atB)):ab Pg 120 (YE (ZR N awr atB)):=by
 refine gfV N (aa aBB (aa az8 (ae _))) 0 ?_;intro a k h;unfold af5 at h;split at h;exact⟨[],rfl,rfl,.trans (by kernel_rfl) h⟩;cases h
theorem abI (N:Nat) (ayu:G8) (ayS:HA) (aDJ:ab Pg 119 (Yc ayu)) (aEk:ab Pg 120 (YE ayS)):ab Pg 103 (S_ (YV N ayu ayS)):=by
 refine gfV N (aa aDJ (aa aEk (ae _))) 0 ?_;intro a k h;unfold ae1 at h;split at h;exact⟨[],rfl,rfl,.trans (by kernel_rfl) h⟩;cases h
theorem aiC (N:Nat) (awc:Br) (aws:BM) (atB:tk) (aBu:ab Pg 103 (S_ awc)) (aBI:ab Pg 135 (TJ aws)) (az8:ab Pg 137 (Ki atB)):ab Pg 130 (YL (amG N awc aws atB)):=by
 refine gfV N (aa aBu (aa aBI (aa az8 (ae _)))) 0 ?_;intro a k h;unfold al0 at h;split at h;exact⟨[],rfl,rfl,.trans (by kernel_rfl) h⟩;cases h
theorem aiB (N:Nat) (au0:CT) (aCy:ab Pg 130 (YL au0)):ab Pg 114 (YK (amF N au0)):=by
 refine gfV N (aa aCy (ae _)) 0 ?_;intro a k h;unfold alZ at h;split at h;exact⟨[],rfl,rfl,.trans (by kernel_rfl) h⟩;cases h
theorem ade (N:Nat) (avm:wG) (at4:ov) (auZ:CS) (aAb:ab Pg 40 (Tz avm)) (axP:ab Pg 104 (CE at4)) (aCx:ab Pg 114 (YK auZ)):ab Pg 99 (TK (ZP N avm at4 auZ)):=by
 refine gfV N (aa aAb (aa axP (aa aCx (ae _)))) 0 ?_;intro a k h;unfold af3 at h;split at h;exact⟨[],rfl,rfl,.trans (by kernel_rfl) h⟩;cases h
theorem adf (N:Nat) (avm:wG) (at4:ov) (awc:Br) (aAb:ab Pg 40 (Tz avm)) (axP:ab Pg 104 (CE at4)) (aBu:ab Pg 103 (S_ awc)):ab Pg 88 (TL (ZQ N avm at4 awc)):=by
 refine gfV N (aa aAb (aa axP (aa aBu (ae _)))) 0 ?_;intro a k h;unfold af4 at h;split at h;exact⟨[],rfl,rfl,.trans (by kernel_rfl) h⟩;cases h
theorem adk (N:Nat) (avm:wG) (auq:yu) (aAb:ab Pg 40 (Tz avm)) (aBH:ab Pg 36 (TH auq)):ab Pg 105 (TM (ZU N avm auq)):=by
 refine gfV N (aa aAb (aa aBH (ae _))) 0 ?_;intro a k h;unfold af8 at h;split at h;exact⟨[],rfl,rfl,.trans (by kernel_rfl) h⟩;cases h
def f7:StSh:=⟨(.any::.any::.any::.slw 0::.any::.any::.roi .u64::.int .i64::.int .i64::sqs 10 []),[some (33,1,.flts)]⟩
def sT:StSh:=⟨(.any::.any::.any::.slw 0::sqs 15 []),[some (33,1,.flts)]⟩
section
variable (N:Nat) (auq:yu)
noncomputable abbrev aaD:Cx:=⟨Pg,ao [(36,(TH auq))],aB,N⟩
def fS:List Atom->K->Bool:=λa_ κ=>match a_ with
 | [.ints axy,.int aB2,.int azp,.fls x]=>ah N (qt N auq axy aB2 (λr0=>κ.ext 0 (sT.build [.fls r0]))) (azp,x)
 | _=>false
def aam:Nat->Option Ann:=λb_=>cond (b_==0) (some ⟨⟨[3,6,7,8],[(3,none,66)],[],[]⟩,[(0,⟨[3],[],[],[]⟩)],some ⟨[2],[],[],[]⟩,some (ay [(f7,fS N auq)])⟩) (none)
theorem sE:az (aaD N auq) 0 (aam N auq) (lp Pg 9 0) (f7,fS N auq):=by
 intro a κ h;simp only at h;unfold fS at h;split at h
 ·rename_i axy aB2 azp x;exact .trans (aA (λ(v_:Int × LF)=>f7.build [.ints axy,.int aB2,.int v_.1,.fls v_.2]) (λv_ K_=>by obtain⟨azp,x⟩:=v_; kernel_rfl) N (azp,x)) h
 ·cases h
theorem v7:aC (aaD N auq) 0 (aam N auq) (lp Pg 9 0):=
 au [(f7,fS N auq)] (by kernel_rfl) ⟨sE _ _,trivial⟩
theorem aiU (aBH:ab Pg 36 (TH auq)):ab Pg 9 (amf (aht N auq)):=by
 refine bH (cx:=(aaD N auq)) (aD (aa aBH (ae _)) (by kernel_rfl)) aeT (agA (aht N auq)) (aam N auq) 1 0 (by kernel_rfl) (aJ (v7 _ _)) ?_;intro a k h;unfold agA at h;split at h;exact⟨[],rfl,rfl,.trans (by kernel_rfl) h⟩;cases h
end
theorem ano (N:Nat) (azm:Ky) (aE9:ab Pg 9 (amf azm)):ab Pg 8 (FQ4 (GQ4 N azm)):=by
 refine gfV N (aa aE9 (ae _)) 0 ?_;intro a k h;unfold aq7 at h;split at h;exact⟨[],rfl,rfl,.trans (by kernel_rfl) h⟩;cases h
theorem acS (N:Nat):ab Pg 98 (Ym (ZD N)):=by
 refine gfV N (ae _) 0 ?_;intro a k h;unfold afN at h;split at h;exact⟨[],rfl,rfl,.trans (by kernel_rfl) h⟩;cases h
def iz:StSh:=⟨(sqs 6 (.rof::.int .i64::.int .i64::sqs 12 [])),[]⟩
def wm:StSh:=⟨(.any::.any::.bool::sqs 18 []),[]⟩
def wr:StSh:=⟨(sqs 21 []),[]⟩
section
variable (N:Nat) (au9:Eg)
noncomputable abbrev aaE:Cx:=⟨Pg,ao [(99,(TF au9))],aB,N⟩
def iu:List Atom->K->Bool:=λa_ κ=>match a_ with
 | [.fls t6,.int t7,.int t8]=>ah N (o6 N au9 t6 t7 (λr0=>κ.ret (wm.build [.bool r0])) (κ.ext 0 (wr.build []))) t8
 | _=>false
def Z8:Nat->Option Ann:=λb_=>cond (b_==0) (some ⟨⟨[6,7,8],[],[],[]⟩,[(0,⟨[],[],[],[]⟩)],some ⟨[2],[],[],[]⟩,some (ay [(iz,iu N au9)])⟩) (none)
theorem vR:az (aaE N au9) 0 (Z8 N au9) (lp Pg 72 0) (iz,iu N au9):=by
 intro a κ h;simp only at h;unfold iu at h;split at h
 ·rename_i t6 t7 t8;exact .trans (aA (λv_=>iz.build [.fls t6,.int t7,.int v_]) (λv_ K_=>by kernel_rfl) N t8) h
 ·cases h
theorem AN:aC (aaE N au9) 0 (Z8 N au9) (lp Pg 72 0):=
 au [(iz,iu N au9)] (by kernel_rfl) ⟨vR _ _,trivial⟩
theorem ah6 (aD_:ab Pg 99 (TF au9)):ab Pg 72 (PY (ahe N au9)):=by
 refine bH (cx:=(aaE N au9)) (aD (aa aD_ (ae _)) (by kernel_rfl)) aez (agc (ahe N au9)) (Z8 N au9) 1 0 (by kernel_rfl) (aJ (AN _ _)) ?_;intro a k h;unfold agc at h;split at h;exact⟨[],rfl,rfl,.trans (by kernel_rfl) h⟩;cases h
end
theorem ah5 (N:Nat) (axD:Hi) (as2:rT) (aDZ:ab Pg 98 (Ym axD)) (aAB:ab Pg 72 (PY as2)):ab Pg 71 (M6 (amq N axD as2)):=by
 refine gfV N (aa aDZ (aa aAB (ae _))) 0 ?_;intro a k h;unfold alJ at h;split at h;exact⟨[],rfl,rfl,.trans (by kernel_rfl) h⟩;cases h
theorem abS (N:Nat):ab Pg 89 (Kg (Y1 N)):=by
 refine gfV N (ae _) 0 ?_;intro a k h;unfold ae7 at h;split at h;exact⟨[],rfl,rfl,.trans (by kernel_rfl) h⟩;cases h
def gL:StSh:=⟨(.any::.ptr 0 0::.any::.int .i64::sqs 12 (.int .i64::.int .i64::.any::.any::.int .i64::.int .i64::sqs 14 [])),[some (28,1,.cells [.int .i64,.int .i64,.rof])]⟩
def uA:StSh:=⟨(.any::.any::.bool::sqs 33 []),[]⟩
def uC:StSh:=⟨(.any::.ptr 0 0::sqs 14 (.int .i64::.int .i64::sqs 18 [])),[some (28,1,.cells [.int .i64,.int .i64,.rof])]⟩
section
variable (N:Nat) (att:vz) (as8:wB) (auc:Ef)
noncomputable abbrev N1:Cx:=⟨Pg,ao [(71,(M6 att)),(89,(Kg as8)),(88,(TE auc))],aB,N⟩
def gH:List Atom->K->Bool:=λa_ κ=>match a_ with
 | [.int i,.int aw8,.int aw9,.int t20,.int t21,.int m_5,.int m_6,.fls m_7]=>ah N (MG N att as8 auc i aw8 aw9 t20 m_5 m_6 m_7 (λr0=>κ.ret (uA.build [.bool r0])) (κ.ext 2 (uC.build [.int aw8,.int aw9,.int m_5,.int m_6,.fls m_7]))) t21
 | _=>false
def gK:StSh:=⟨(.any::.ptr 0 0::sqs 14 (.int .i64::.int .i64::sqs 18 [])),[some (28,1,.cells [.int .i64,.int .i64,.rof])]⟩
def uz:StSh:=⟨(.any::.any::.bool::sqs 33 []),[]⟩
def uB:StSh:=⟨(sqs 36 []),[]⟩
def gG:List Atom->K->Bool:=λa_ κ=>match a_ with
 | [.int t16,.int t17,.int m,.int m_3,.fls m_4]=>ah N (MF N att as8 auc t16 m m_3 m_4 (λr0=>κ.ret (uz.build [.bool r0])) (κ.ext 0 (uB.build []))) t17
 | _=>false
def NC:Nat->Option Ann:=λb_=>cond (b_==2) (some ⟨⟨[1,3,16,17,20,21],[],[],[]⟩,[(2,⟨[1,16,17],[],[],[]⟩)],some ⟨[2],[],[],[]⟩,some (ay [(gL,gH N att as8 auc)])⟩) (cond (b_==0) (some ⟨⟨[1,16,17],[],[],[]⟩,[(0,⟨[],[],[],[]⟩)],some ⟨[2],[],[],[]⟩,some (ay [(gK,gG N att as8 auc)])⟩) (none))
theorem ur:az (N1 N att as8 auc) 0 (NC N att as8 auc) (lp Pg 58 1) (gL,gH N att as8 auc):=by
 intro a κ h;simp only at h;unfold gH at h;split at h
 ·rename_i i aw8 aw9 t20 t21 m_5 m_6 m_7;exact .trans (aA (λv_=>gL.build [.int i,.int aw8,.int aw9,.int t20,.int v_,.int m_5,.int m_6,.fls m_7]) (λv_ K_=>by kernel_rfl) N t21) h
 ·cases h
theorem uq:az (N1 N att as8 auc) 0 (NC N att as8 auc) (lp Pg 58 0) (gK,gG N att as8 auc):=by
 intro a κ h;simp only at h;unfold gG at h;split at h
 ·rename_i t16 t17 m m_3 m_4;exact .trans (aA (λv_=>gK.build [.int t16,.int v_,.int m,.int m_3,.fls m_4]) (λv_ K_=>by kernel_rfl) N t17) h
 ·cases h
theorem ya:aC (N1 N att as8 auc) 0 (NC N att as8 auc) (lp Pg 58 1):=
 au [(gL,gH N att as8 auc)] (by kernel_rfl) ⟨ur _ _ _ _,trivial⟩
theorem x_:aC (N1 N att as8 auc) 0 (NC N att as8 auc) (lp Pg 58 0):=
 au [(gK,gG N att as8 auc)] (by kernel_rfl) ⟨uq _ _ _ _,trivial⟩
theorem aiv (aAA:ab Pg 71 (M6 att)) (aBv:ab Pg 89 (Kg as8)) (aD7:ab Pg 88 (TE auc)):ab Pg 58 (amd (ahm N att as8 auc)):=by
 refine bH (cx:=(N1 N att as8 auc)) (aD (aa aAA (aa aBv (aa aD7 (ae _)))) (by kernel_rfl)) aeJ (agq (ahm N att as8 auc)) (NC N att as8 auc) 2 0 (by kernel_rfl) (iL (x_ _ _ _ _) (ya _ _ _ _)) ?_;intro a k h;unfold agq at h;split at h;exact⟨[],rfl,rfl,.trans (by kernel_rfl) h⟩;cases h
end
theorem yW (N:Nat):ab Pg 131 (dz (uD N)):=by
 refine gfV N (ae _) 0 ?_;intro a k h;unfold ue at h;split at h;exact⟨[],rfl,rfl,.trans (by kernel_rfl) h⟩;cases h
def aad (N:Nat):Nat->Option Ann:=λb_=>none
theorem ao8 (N:Nat) (x:Int) (c_:KV):qv ⟨Pg,ao [],aB,N⟩ (aad N) 206 (Mw.args [.int x]) [] c_=ZX N x (λr0=>c_ (vwi r0) []):=by
 have key:∀ L_:Int,aQ ⟨Pg,ao [],aB,N⟩ 0 (aad N) (((cds Pg 206).drop 0).map (PK 285870213051353865 L_)) 0 (st0 Pg 206 (Mw.args [.int x]) []) (tC Pg 206 0 c_)=(λ(k0:Kz0)=>cond (x==0) (k0 64) (inR (Int.fdiv (IntKind.wrap .u64 ((aH .and .u64 x (IntKind.wrap .u64 (0 - x)))*L_)) (2 ^ 58)) 64&&(aj .i64 (FV.getD (Int.toNat (Int.fdiv (IntKind.wrap .u64 ((aH .and .u64 x (IntKind.wrap .u64 (0 - x)))*L_)) (2 ^ 58))) 0)&&k0 (FV.getD (Int.toNat (Int.fdiv (IntKind.wrap .u64 ((aH .and .u64 x (IntKind.wrap .u64 (0 - x)))*L_)) (2 ^ 58))) 0)))) (λr0=>c_ (vwi r0) []):=λL_=>by kernel_rfl
 have hc:(cds Pg 206).drop 0=((cds Pg 206).drop 0).map (PK 285870213051353865 285870213051353865):=by kernel_rfl
 refine(nT (by kernel_rfl)).trans ?_;rw[hc];exact key 285870213051353865
theorem aim (N:Nat):ab Pg 206 (agS (ZX N)):=by
 refine bH (cx:=⟨Pg,ao [],aB,N⟩) (aD (ae _) (by kernel_rfl)) Mw (agn (ZX N)) (aad N) 0 0 (by kernel_rfl) (λi_ hi_=>by omega) ?_;intro a k h;unfold agn at h;split at h;exact⟨[],rfl,rfl,(ao8 _ _ _).trans h⟩;cases h
section
variable (N:Nat) (au0:CT) (auZ:CS) (atB:tk) (avp:HG)
noncomputable abbrev N2:Cx:=⟨Pg,ao [(130,(YL au0)),(114,(YK auZ)),(137,(Ki atB)),(206,(agS avp))],aB,N⟩
def HX (N:Nat) (au0:CT) (auZ:CS) (atB:tk) (avp:HG):Nat->Option Ann:=λb_=>none
def Rl (d_:List V) (u_:List (Option Blk)) (b f_0 f_1 f_2:Int) (p:Bool) (p_1 p_2:Int):St:=⟨(dqs d_ 0 4 (.ptr 1 0::dqs d_ 4 4 (.ptr 2 0::dqs d_ 8 52 []))),[(u_.getD 0 none),some ⟨198,1,.cells [.bool false,vwu 0,vwi 0]⟩,some ⟨198,1,.cells [.bool p,vwu p_1,vwi p_2]⟩]⟩
theorem anI (d_:List V) (u_:List (Option Blk)) (b f_0 f_1 f_2:Int) (p:Bool) (p_1 p_2:Int) (c_:KV):aQ (N2 N au0 auZ atB avp) 0 (HX N au0 auZ atB avp) ((cds Pg 184).drop 5) 0 (Rl d_ u_ b f_0 f_1 f_2 p p_1 p_2) (tC Pg 184 0 c_)=GH N au0 auZ atB avp b f_0 f_1 f_2 p p_1 p_2 (λr0 r1 r2 r3=>c_ (.tup [.agg [.bool r0,vwu r1,vwi r2],vwi r3]) []):=by kernel_rfl
theorem xS (b f_0 f_1 f_2:Int) (c_:KV) (κn_:St->Bool):aQ (N2 N au0 auZ atB avp) 0 (HX N au0 auZ atB avp) (sg Pg 184 0 5) 0 (st0 Pg 184 (DO.args [.int b,.int f_0,.int f_1,.int f_2]) []) { (tC Pg 184 0 c_)with nrm:=κn_ } = (au0 b f_0 f_1 f_2 (λcr nr ask=>aj .i64 (nr - f_2)&&auZ b f_0 f_1 f_2 (λasl=>cond (asl==1) (c_ (.tup [.agg [.bool false,vwu 0,vwi 0],vwi 4]) []) (cond (asl==2) (c_ (.tup [.agg [.bool false,vwu 0,vwi 0],vwi 4]) []) (cond (asl==3) (c_ (.tup [.agg [.bool cr,vwu 0,vwi 0],vwi 0]) []) (cond (asl==4) (aj .i64 ((nr - f_2)+1)&&κn_ (Rl (vwu b::.agg [vwu f_0,vwi f_1,vwi f_2]::.any::.ptr 0 0::vwi 0::.bool cr::vwi nr::vwu ask::.any::.tup [.bool cr,vwi nr,vwu ask]::vwu b::.agg [vwu f_0,vwi f_1,vwi f_2]::.tup [.bool cr,vwi nr,vwu ask]::.bool cr::vwi nr::vwu ask::.bool cr::vwu ask::vwi nr::.ptr 0 2::vwi f_2::vwi (nr - f_2)::.agg [.bool cr,vwu ask,vwi (nr - f_2)]::vwu b::.agg [vwu f_0,vwi f_1,vwi f_2]::vwi asl::vqs 6 (.bool false::.bool (asl==1)::.bool (asl==2)::.any::.bool false::.bool (asl==3)::.any::.any::.bool true::.bool (asl==4)::.ptr 2 2::vwi (nr - f_2)::vwi ((nr - f_2)+1)::.ptr 2 2::vqs 14 [])) [some ⟨143,1,.cells [vwu f_0,vwi f_1,vwi f_2]⟩] b f_0 f_1 f_2 cr ask ((nr - f_2)+1))) (atB f_0 f_1 f_2 (λatd=>κn_ (Rl (vwu b::.agg [vwu f_0,vwi f_1,vwi f_2]::.any::.ptr 0 0::vwi 0::.bool cr::vwi nr::vwu ask::.any::.tup [.bool cr,vwi nr,vwu ask]::vwu b::.agg [vwu f_0,vwi f_1,vwi f_2]::.tup [.bool cr,vwi nr,vwu ask]::.bool cr::vwi nr::vwu ask::.bool cr::vwu ask::vwi nr::.ptr 0 2::vwi f_2::vwi (nr - f_2)::.agg [.bool cr,vwu ask,vwi (nr - f_2)]::vwu b::.agg [vwu f_0,vwi f_1,vwi f_2]::vwi asl::.ptr 2 1::vwu ask::.agg [vwu f_0,vwi f_1,vwi f_2]::vwu atd::vwu (aH .or .u64 ask atd)::.ptr 2 1::.bool false::.bool (asl==1)::.bool (asl==2)::.any::.bool false::.bool (asl==3)::.any::.any::.bool false::.bool (asl==4)::vqs 18 []) [some ⟨143,1,.cells [vwu f_0,vwi f_1,vwi f_2]⟩] b f_0 f_1 f_2 cr (aH .or .u64 ask atd) (nr - f_2)))))))))):=by kernel_rfl
theorem yb (b f_0 f_1 f_2:Int) (c_:KV):aQ (N2 N au0 auZ atB avp) 0 (HX N au0 auZ atB avp) ((cds Pg 184).drop 0) 0 (st0 Pg 184 (DO.args [.int b,.int f_0,.int f_1,.int f_2]) []) (tC Pg 184 0 c_)=Kn N au0 auZ atB avp b f_0 f_1 f_2 (λr0 r1 r2 r3=>c_ (.tup [.agg [.bool r0,vwu r1,vwi r2],vwi r3]) []):=by rw[cY 0 5 5 rfl];refine(xS N au0 auZ atB avp b f_0 f_1 f_2 c_ _).trans ?_;simp only[anI];kernel_rfl
theorem am1 (b f_0 f_1 f_2:Int) (c_:KV):qv (N2 N au0 auZ atB avp) (HX N au0 auZ atB avp) 184 (DO.args [.int b,.int f_0,.int f_1,.int f_2]) [] c_=Kn N au0 auZ atB avp b f_0 f_1 f_2 (λr0 r1 r2 r3=>c_ (.tup [.agg [.bool r0,vwu r1,vwi r2],vwi r3]) []):=
 (nT (by kernel_rfl)).trans (yb N au0 auZ atB avp b f_0 f_1 f_2 c_)
theorem ab6 (aCy:ab Pg 130 (YL au0)) (aCx:ab Pg 114 (YK auZ)) (az8:ab Pg 137 (Ki atB)) (aEQ:ab Pg 206 (agS avp)):ab Pg 184 (X1 (Kn N au0 auZ atB avp)):=by
 refine bH (cx:=(N2 N au0 auZ atB avp)) (aD (aa aCy (aa aCx (aa az8 (aa aEQ (ae _))))) (by kernel_rfl)) DO (Sm (Kn N au0 auZ atB avp)) (HX N au0 auZ atB avp) 0 0 (by kernel_rfl) (λi_ hi_=>by omega) ?_;intro a k h;unfold Sm at h;split at h;exact⟨[],rfl,rfl,(am1 _ _ _ _ _ _ _ _ _ _).trans h⟩;cases h
end
theorem acW (N:Nat) (avn:wH) (at4:ov) (ayi:GV) (aAc:ab Pg 40 (TI avn)) (axP:ab Pg 104 (CE at4)) (aDr:ab Pg 184 (X1 ayi)):ab Pg 151 (TC (ZF N avn at4 ayi)):=by
 refine gfV N (aa aAc (aa axP (aa aDr (ae _)))) 0 ?_;intro a k h;unfold afQ at h;split at h;exact⟨[],rfl,rfl,.trans (by kernel_rfl) h⟩;cases h
def kP:StSh:=⟨(.slw 0::.any::.any::.int .i64::sqs 17 []),[some (23,1,.ints .u64)]⟩
def AW:StSh:=⟨(.slw 0::.any::.any::.int .i64::sqs 17 []),[some (23,1,.ints .u64)]⟩
def kG (N:Nat):List Atom->K->Bool:=λa_ κ=>match a_ with
 | [.int n,.ints x]=>ah N (Cs N x (λr0=>κ.ext 0 (AW.build [.int r0,.ints x]))) n
 | _=>false
def amV (N:Nat):Nat->Option Ann:=λb_=>cond (b_==0) (some ⟨⟨[0,3],[],[],[]⟩,[(0,⟨[0,3],[],[],[]⟩)],some ⟨[2],[],[],[]⟩,some (ay [(kP,kG N)])⟩) (none)
theorem AH (N:Nat):az ⟨Pg,ao [],aB,N⟩ 1 (amV N) (lp Pg 207 0) (kP,kG N):=by
 intro a κ h;simp only at h;unfold kG at h;split at h
 ·rename_i n x;exact .trans (aA (λv_=>kP.build [.int v_,.ints x]) (λv_ K_=>by kernel_rfl) N n) h
 ·cases h
theorem F8 (N:Nat):aC ⟨Pg,ao [],aB,N⟩ 1 (amV N) (lp Pg 207 0):=
 au [(kP,kG N)] (by kernel_rfl) ⟨AH _,trivial⟩
theorem anr (N:Nat):ab Pg 207 (FQ9 (GQ9 N)):=by
 refine aT (md:=false) (cx:=⟨Pg,ao [],aB,N⟩) (aD (ae _) (by kernel_rfl)) alx (aoM (GQ9 N)) (amV N) 1 1 (by kernel_rfl) (aJ (F8 _)) ?_;intro a k h;unfold aoM at h;split at h;exact⟨[_],rfl,rfl,.trans (by kernel_rfl) h⟩;cases h
theorem ait (N:Nat) (SQ9:lQ) (hQ9:ab Pg 207 (FQ9 SQ9)):ab Pg 186 (M8 (amC N SQ9)):=by
 refine gfZ N false (aa hQ9 (ae _)) 0 ?_;intro a k h;unfold alV at h;split at h;exact⟨[],rfl,rfl,.trans (by kernel_rfl) h⟩;cases h
theorem ah8 (N:Nat):ab Pg 185 (PZ (amr N)):=by
 refine gfZ N false (ae _) 1 ?_;intro a k h;unfold alK at h;split at h;exact⟨[_],rfl,rfl,.trans (by kernel_rfl) h⟩;cases h
theorem air (N:Nat) (asB:rU) (avo:vA) (aAF:ab Pg 186 (M8 asB)) (azV:ab Pg 185 (PZ avo)):ab Pg 152 (agW (amA N asB avo)):=by
 refine gfZ N false (aa aAF (aa azV (ae _))) 1 ?_;intro a k h;unfold alT at h;split at h;exact⟨[_],rfl,rfl,.trans (by kernel_rfl) h⟩;cases h
theorem aic (N:Nat):ab Pg 187 (GD (amt N)):=by
 refine gfZ N false (ae _) 0 ?_;intro a k h;unfold alM at h;split at h;exact⟨[],rfl,rfl,.trans (by kernel_rfl) h⟩;cases h
theorem aiH (N:Nat):ab Pg 185 (YM (aoW N)):=by
 refine gfZ N false (ae _) 1 ?_;intro a k h;unfold al3 at h;split at h;exact⟨[_],rfl,rfl,.trans (by kernel_rfl) h⟩;cases h
theorem aiP (N:Nat) (asJ:mQ) (awt:CU) (ax3:ab Pg 187 (GD asJ)) (aBR:ab Pg 185 (YM awt)):ab Pg 153 (ag5 (amN N asJ awt)):=by
 refine gfZ N false (aa ax3 (aa aBR (ae _))) 1 ?_;intro a k h;unfold al8 at h;split at h;exact⟨[_],rfl,rfl,.trans (by kernel_rfl) h⟩;cases h
theorem abO (N:Nat) (asB:rU) (avo:vA) (aAF:ab Pg 186 (M8 asB)) (azV:ab Pg 185 (PZ avo)):ab Pg 189 (XS (Y0 N asB avo)):=by
 refine gfZ N false (aa aAF (aa azV (ae _))) 1 ?_;intro a k h;unfold ae5 at h;split at h;exact⟨[_],rfl,rfl,.trans (by kernel_rfl) h⟩;cases h
theorem acm (N:Nat) (ax_:GM) (aDd:ab Pg 189 (XS ax_)):ab Pg 155 (MX (Zh N ax_)):=by
 refine gfZ N false (aa aDd (ae _)) 0 ?_;intro a k h;unfold afq at h;split at h;exact⟨[],rfl,rfl,.trans (by kernel_rfl) h⟩;cases h
def mH:StSh:=⟨(sqs 5 (.int .i64::.int .u64::.slw 0::sqs 16 (.roi .u64::.int .i64::.int .i64::sqs 28 []))),[some (23,1,.ints .u64)]⟩
def DX:StSh:=⟨(sqs 7 (.slw 0::sqs 47 [])),[some (23,1,.ints .u64)]⟩
section
variable (N:Nat) (SQ9:lQ)
noncomputable abbrev aaF:Cx:=⟨Pg,ao [(207,(FQ9 SQ9))],aB,N⟩
def mA:List Atom->K->Bool:=λa_ κ=>match a_ with
 | [.int words,.int rest,.ints t24,.int t25,.int t26,.ints z]=>ah N (Cv N SQ9 words rest t24 t25 (λr0=>κ.ext 0 (DX.build [.ints r0]))) (t26,z)
 | _=>false
def Qu:Nat->Option Ann:=λb_=>cond (b_==0) (some ⟨⟨[5,6,7,24,25,26],[],[],[]⟩,[(0,⟨[7],[],[],[]⟩)],some ⟨[4],[],[],[]⟩,some (ay [(mH,mA N SQ9)])⟩) (none)
theorem Dg:az (aaF N SQ9) 0 (Qu N SQ9) (lp Pg 188 0) (mH,mA N SQ9):=by
 intro a κ h;simp only at h;unfold mA at h;split at h
 ·rename_i words rest t24 t25 t26 z;exact .trans (aA (λ(v_:Int × LI)=>mH.build [.int words,.int rest,.ints t24,.int t25,.int v_.1,.ints v_.2]) (λv_ K_=>by obtain⟨t26,z⟩:=v_; kernel_rfl) N (t26,z)) h
 ·cases h
theorem J4:aC (aaF N SQ9) 0 (Qu N SQ9) (lp Pg 188 0):=
 au [(mH,mA N SQ9)] (by kernel_rfl) ⟨Dg _ _,trivial⟩
theorem ada (hQ9:ab Pg 207 (FQ9 SQ9)):ab Pg 188 (YA (T8 N SQ9)):=by
 refine aT (md:=false) (cx:=(aaF N SQ9)) (aD (aa hQ9 (ae _)) (by kernel_rfl)) VS (SM (T8 N SQ9)) (Qu N SQ9) 1 0 (by kernel_rfl) (aJ (J4 _ _)) ?_;intro a k h;unfold SM at h;split at h;exact⟨[],rfl,rfl,.trans (by kernel_rfl) h⟩;cases h
end
theorem aiM (N:Nat) (ayO:Hw) (avo:vA) (aEg:ab Pg 188 (YA ayO)) (azV:ab Pg 185 (PZ avo)):ab Pg 154 (ag2 (amK N ayO avo)):=by
 refine gfZ N false (aa aEg (aa azV (ae _))) 2 ?_;intro a k h;unfold al5 at h;split at h;exact⟨[_,_],rfl,rfl,.trans (by kernel_rfl) h⟩;cases h
def jZ:StSh:=⟨(.roi .u64::.roi .u64::.any::.any::.any::.int .i64::sqs 35 []),[]⟩
def zU:StSh:=⟨(sqs 4 (.int .i64::sqs 36 [])),[]⟩
def z7:StSh:=⟨(sqs 41 []),[]⟩
def jR (N:Nat):List Atom->K->Bool:=λa_ κ=>match a_ with
 | [.ints x_1,.ints y_1,.int i]=>ah N (Cp N x_1 y_1 (λr0=>κ.ret (zU.build [.int r0])) (κ.ext 0 (z7.build []))) i
 | _=>false
def Z7 (N:Nat):Nat->Option Ann:=λb_=>cond (b_==0) (some ⟨⟨[0,1,5],[],[],[]⟩,[(0,⟨[],[],[],[]⟩)],some ⟨[4],[],[],[]⟩,some (ay [(jZ,jR N)])⟩) (none)
theorem y_ (N:Nat):az ⟨Pg,ao [],aB,N⟩ 0 (Z7 N) (lp Pg 209 0) (jZ,jR N):=by
 intro a κ h;simp only at h;unfold jR at h;split at h
 ·rename_i x_1 y_1 i;exact .trans (aA (λv_=>jZ.build [.ints x_1,.ints y_1,.int v_]) (λv_ K_=>by kernel_rfl) N i) h
 ·cases h
theorem Ez (N:Nat):aC ⟨Pg,ao [],aB,N⟩ 0 (Z7 N) (lp Pg 209 0):=
 au [(jZ,jR N)] (by kernel_rfl) ⟨y_ _,trivial⟩
theorem ahZ (N:Nat):ab Pg 209 (Lu (ahb N)):=by
 refine aT (md:=false) (cx:=⟨Pg,ao [],aB,N⟩) (aD (ae _) (by kernel_rfl)) aex (af9 (ahb N)) (Z7 N) 1 0 (by kernel_rfl) (aJ (Ez _)) ?_;intro a k h;unfold af9 at h;split at h;exact⟨[],rfl,rfl,.trans (by kernel_rfl) h⟩;cases h
def BS (N:Nat):Nat->Option Ann:=λb_=>none
def Ro (d_:List V) (u_:List (Option Blk)) (x x_2 n_1:Int):St:=⟨(vwu x_2::(dq d_ 0)::vwi n_1::dqs d_ 1 22 []),[]⟩
def Mg (d_:List V) (u_:List (Option Blk)) (x x_1 n:Int):St:=⟨(vwu x_1::(dq d_ 0)::vwi n::dqs d_ 1 22 []),[]⟩
theorem anN (N:Nat) (d_:List V) (u_:List (Option Blk)) (x x_2 n_1:Int) (c_:KV):aQ ⟨Pg,ao [],aB,N⟩ 0 (BS N) ((cds Pg 231).drop 5) 0 (Ro d_ u_ x x_2 n_1) (tC Pg 231 0 c_)=Nk N x x_2 n_1 (λr0=>c_ (vwi r0) []):=by kernel_rfl
theorem anv (N:Nat) (d_:List V) (u_:List (Option Blk)) (x x_1 n:Int) (c_:KV) (κn_:St->Bool):aQ ⟨Pg,ao [],aB,N⟩ 0 (BS N) (sg Pg 231 3 2) 0 (Mg d_ u_ x x_1 n) { (tC Pg 231 0 c_)with nrm:=κn_ } = (cond (decide (x_1>=65536)) (aj .i64 (n+16)&&κn_ (Ro (dqs d_ 0 5 (vwu x_1::.bool true::vwu x_1::vwu (Int.fdiv x_1 (2 ^ 16))::vwi n::vwi (n+16)::dqs d_ 11 12 [])) [] x (Int.fdiv x_1 (2 ^ 16)) (n+16))) (κn_ (Ro (dqs d_ 0 5 (vwu x_1::.bool false::dqs d_ 7 16 [])) [] x x_1 n))):=by kernel_rfl
theorem anK (N:Nat) (d_:List V) (u_:List (Option Blk)) (x x_1 n:Int) (c_:KV):aQ ⟨Pg,ao [],aB,N⟩ 0 (BS N) ((cds Pg 231).drop 3) 0 (Mg d_ u_ x x_1 n) (tC Pg 231 0 c_)=Ni N x x_1 n (λr0=>c_ (vwi r0) []):=by rw[cY 3 2 5 rfl];refine(anv N d_ u_ x x_1 n c_ _).trans ?_;simp only[anN];kernel_rfl
theorem Df (N:Nat) (x:Int) (c_:KV) (κn_:St->Bool):aQ ⟨Pg,ao [],aB,N⟩ 0 (BS N) (sg Pg 231 0 3) 0 (st0 Pg 231 (DP.args [.int x]) []) { (tC Pg 231 0 c_)with nrm:=κn_ } = (cond (decide (x>=4294967296)) (κn_ (Mg (.any::vwu x::.bool true::vwu x::vwu (Int.fdiv x (2 ^ 32))::vqs 18 []) [] x (Int.fdiv x (2 ^ 32)) 32)) (κn_ (Mg (.any::vwu x::.bool false::vqs 20 []) [] x x 0))):=by kernel_rfl
theorem Ds (N:Nat) (x:Int) (c_:KV):aQ ⟨Pg,ao [],aB,N⟩ 0 (BS N) ((cds Pg 231).drop 0) 0 (st0 Pg 231 (DP.args [.int x]) []) (tC Pg 231 0 c_)=Ko N x (λr0=>c_ (vwi r0) []):=by rw[cY 0 3 3 rfl];refine(Df N x c_ _).trans ?_;simp only[anK];kernel_rfl
theorem am2 (N:Nat) (x:Int) (c_:KV):qv ⟨Pg,ao [],aB,N⟩ (BS N) 231 (DP.args [.int x]) [] c_=Ko N x (λr0=>c_ (vwi r0) []):=
 (nT (by kernel_rfl)).trans (Ds N x c_)
theorem ab8 (N:Nat):ab Pg 231 (Th (Ko N)):=by
 refine bH (cx:=⟨Pg,ao [],aB,N⟩) (aD (ae _) (by kernel_rfl)) DP (So (Ko N)) (BS N) 0 0 (by kernel_rfl) (λi_ hi_=>by omega) ?_;intro a k h;unfold So at h;split at h;exact⟨[],rfl,rfl,(am2 _ _ _).trans h⟩;cases h
theorem abH (N:Nat) (awo:Bx) (aBw:ab Pg 231 (Th awo)):ab Pg 218 (S0 (YU N awo)):=by
 refine gfZ N false (aa aBw (ae _)) 0 ?_;intro a k h;unfold ae0 at h;split at h;exact⟨[],rfl,rfl,.trans (by kernel_rfl) h⟩;cases h
theorem abF (N:Nat):ab Pg 232 (E9 (YS N)):=by
 refine gfZ N false (ae _) 0 ?_;intro a k h;unfold aeZ at h;split at h;exact⟨[],rfl,rfl,.trans (by kernel_rfl) h⟩;cases h
theorem acB (N:Nat) (as6:pO) (aza:ab Pg 232 (E9 as6)):ab Pg 220 (Ts (Zt N as6)):=by
 refine gfZ N false (aa aza (ae _)) 0 ?_;intro a k h;unfold afC at h;split at h;exact⟨[],rfl,rfl,.trans (by kernel_rfl) h⟩;cases h
def lM:StSh:=⟨(.int .u64::.int .u64::.any::.any::.ptr 0 0::.ptr 1 0::.int .u64::.int .u64::sqs 49 []),[some (263,1,.cells [.int .u64,.int .u64,.int .u64,.int .u64,.bool]),some (263,1,.cells [.int .u64,.int .u64,.int .u64,.int .u64,.bool])]⟩
def Cz:StSh:=⟨(sqs 4 (.ptr 0 0::.ptr 1 0::sqs 51 [])),[some (263,1,.cells [.int .u64,.int .u64,.int .u64,.int .u64,.bool]),some (263,1,.cells [.int .u64,.int .u64,.int .u64,.int .u64,.bool])]⟩
def lF (N:Nat):List Atom->K->Bool:=λa_ κ=>match a_ with
 | [.int x_1,.int y_1,.int u,.int v,.int t4,.int ay7,.int awO,.int awP,.bool aBZ,.int w,.int w_1,.int w_2,.int w_3,.bool w_4]=>ah N (ug N t4 ay7 awO awP aBZ (λr5 r6 r7 r8 r9=>κ.ext 0 (Cz.build [.int t4,.int ay7,.int awO,.int awP,.bool aBZ,.int r5,.int r6,.int r7,.int r8,.bool r9]))) (x_1,y_1,u,v,w,w_1,w_2,w_3,w_4)
 | _=>false
def Qi (N:Nat):Nat->Option Ann:=λb_=>cond (b_==0) (some ⟨⟨[0,1,4,5,6,7],[],[],[]⟩,[(0,⟨[4,5],[],[],[]⟩)],some ⟨[4],[],[],[]⟩,some (ay [(lM,lF N)])⟩) (none)
theorem B8 (N:Nat):az ⟨Pg,ao [],aB,N⟩ 0 (Qi N) (lp Pg 219 0) (lM,lF N):=by
 intro a κ h;simp only at h;unfold lF at h;split at h
 ·rename_i x_1 y_1 u v t4 ay7 awO awP aBZ w w_1 w_2 w_3 w_4;exact .trans (aA (λ(v_:Int × Int × Int × Int × Int × Int × Int × Int × Bool)=>lM.build [.int v_.1,.int v_.2.1,.int v_.2.2.1,.int v_.2.2.2.1,.int t4,.int ay7,.int awO,.int awP,.bool aBZ,.int v_.2.2.2.2.1,.int v_.2.2.2.2.2.1,.int v_.2.2.2.2.2.2.1,.int v_.2.2.2.2.2.2.2.1,.bool v_.2.2.2.2.2.2.2.2]) (λv_ K_=>by obtain⟨x_1,y_1,u,v,w,w_1,w_2,w_3,w_4⟩:=v_; kernel_rfl) N (x_1,y_1,u,v,w,w_1,w_2,w_3,w_4)) h
 ·cases h
theorem IH (N:Nat):aC ⟨Pg,ao [],aB,N⟩ 0 (Qi N) (lp Pg 219 0):=
 au [(lM,lF N)] (by kernel_rfl) ⟨B8 _,trivial⟩
theorem abU (N:Nat):ab Pg 219 (Tc (Y3 N)):=by
 refine aT (md:=false) (cx:=⟨Pg,ao [],aB,N⟩) (aD (ae _) (by kernel_rfl)) VA (Se (Y3 N)) (Qi N) 1 0 (by kernel_rfl) (aJ (IH _)) ?_;intro a k h;unfold Se at h;split at h;exact⟨[],rfl,rfl,.trans (by kernel_rfl) h⟩;cases h
theorem aix (N:Nat):ab Pg 227 (P1 (amD N)):=by
 refine gfV N (ae _) 0 ?_;intro a k h;unfold alX at h;split at h;exact⟨[],rfl,rfl,.trans (by kernel_rfl) h⟩;cases h
theorem aif (N:Nat) (auf:yy) (asn:mP) (aBP:ab Pg 227 (P1 auf)) (azd:ab Pg 228 (FX asn)):ab Pg 211 (JW (amu N auf asn)):=by
 refine gfZ N false (aa aBP (aa azd (ae _))) 0 ?_;intro a k h;unfold alN at h;split at h;exact⟨[],rfl,rfl,.trans (by kernel_rfl) h⟩;cases h
def mJ:StSh:=⟨(.roi .u64::.int .u64::.int .u64::sqs 4 (.slw 0::sqs 6 (.roi .u64::.int .i64::.int .i64::sqs 22 []))),[some (23,1,.ints .u64)]⟩
def DZ:StSh:=⟨(.roi .u64::.any::.int .u64::sqs 4 (.slw 0::sqs 31 [])),[some (23,1,.ints .u64)]⟩
section
variable (N:Nat) (asw:pG) (SQ9:lQ)
noncomputable abbrev aaG:Cx:=⟨Pg,ao [(211,(JW asw)),(207,(FQ9 SQ9))],aB,N⟩
def mC:List Atom->K->Bool:=λa_ κ=>match a_ with
 | [.ints x_1,.int d_1,.int axv,.ints t14,.int t15,.int t16,.ints z]=>ah N (qr N asw SQ9 x_1 d_1 t14 t15 (λr1 r2=>κ.ext 0 (DZ.build [.ints x_1,.int r1,.ints r2]))) (axv,t16,z)
 | _=>false
def Qt:Nat->Option Ann:=λb_=>cond (b_==0) (some ⟨⟨[0,1,2,7,14,15,16],[],[],[]⟩,[(0,⟨[0,2,7],[],[],[]⟩)],some ⟨[6],[],[],[]⟩,some (ay [(mJ,mC N asw SQ9)])⟩) (none)
theorem Di:az (aaG N asw SQ9) 0 (Qt N asw SQ9) (lp Pg 234 0) (mJ,mC N asw SQ9):=by
 intro a κ h;simp only at h;unfold mC at h;split at h
 ·rename_i x_1 d_1 axv t14 t15 t16 z;exact .trans (aA (λ(v_:Int × Int × LI)=>mJ.build [.ints x_1,.int d_1,.int v_.1,.ints t14,.int t15,.int v_.2.1,.ints v_.2.2]) (λv_ K_=>by obtain⟨axv,t16,z⟩:=v_; kernel_rfl) N (axv,t16,z)) h
 ·cases h
theorem J6:aC (aaG N asw SQ9) 0 (Qt N asw SQ9) (lp Pg 234 0):=
 au [(mJ,mC N asw SQ9)] (by kernel_rfl) ⟨Di _ _ _,trivial⟩
theorem ac7 (aAD:ab Pg 211 (JW asw)) (hQ9:ab Pg 207 (FQ9 SQ9)):ab Pg 234 (Yx (T7 N asw SQ9)):=by
 refine aT (md:=false) (cx:=(aaG N asw SQ9)) (aD (aa aAD (aa hQ9 (ae _))) (by kernel_rfl)) VR (SL (T7 N asw SQ9)) (Qt N asw SQ9) 1 0 (by kernel_rfl) (aJ (J6 _ _ _)) ?_;intro a k h;unfold SL at h;split at h;exact⟨[],rfl,rfl,.trans (by kernel_rfl) h⟩;cases h
def mI:StSh:=⟨(.roi .u64::.roi .u64::.any::.any::.any::.slw 0::.int .u64::sqs 5 (.int .i64::.int .i64::sqs 20 [])),[some (23,1,.ints .u64)]⟩
def DY:StSh:=⟨(sqs 5 (.slw 0::sqs 28 [])),[some (23,1,.ints .u64)]⟩
end
section
variable (N:Nat) (as6:pO) (asO:tw) (SQ9:lQ)
noncomputable abbrev aaH:Cx:=⟨Pg,ao [(232,(E9 as6)),(237,(PW asO)),(207,(FQ9 SQ9))],aB,N⟩
def mB:List Atom->K->Bool:=λa_ κ=>match a_ with
 | [.ints x_1,.ints y_1,.int borrow,.int t12,.int t13,.ints z]=>ah N (qq N as6 asO SQ9 x_1 y_1 t12 (λr0=>κ.ext 0 (DY.build [.ints r0]))) (borrow,t13,z)
 | _=>false
def Qq:Nat->Option Ann:=λb_=>cond (b_==0) (some ⟨⟨[0,1,5,6,12,13],[],[],[]⟩,[(0,⟨[5],[],[],[]⟩)],some ⟨[4],[],[],[]⟩,some (ay [(mI,mB N as6 asO SQ9)])⟩) (none)
theorem Dh:az (aaH N as6 asO SQ9) 0 (Qq N as6 asO SQ9) (lp Pg 233 0) (mI,mB N as6 asO SQ9):=by
 intro a κ h;simp only at h;unfold mB at h;split at h
 ·rename_i x_1 y_1 borrow t12 t13 z;exact .trans (aA (λ(v_:Int × Int × LI)=>mI.build [.ints x_1,.ints y_1,.int v_.1,.int t12,.int v_.2.1,.ints v_.2.2]) (λv_ K_=>by obtain⟨borrow,t13,z⟩:=v_; kernel_rfl) N (borrow,t13,z)) h
 ·cases h
theorem J5:aC (aaH N as6 asO SQ9) 0 (Qq N as6 asO SQ9) (lp Pg 233 0):=
 au [(mI,mB N as6 asO SQ9)] (by kernel_rfl) ⟨Dh _ _ _ _,trivial⟩
theorem acU (aza:ab Pg 232 (E9 as6)) (aBL:ab Pg 237 (PW asO)) (hQ9:ab Pg 207 (FQ9 SQ9)):ab Pg 233 (TA (T4 N as6 asO SQ9)):=by
 refine aT (md:=false) (cx:=(aaH N as6 asO SQ9)) (aD (aa aza (aa aBL (aa hQ9 (ae _)))) (by kernel_rfl)) VN (SE (T4 N as6 asO SQ9)) (Qq N as6 asO SQ9) 1 0 (by kernel_rfl) (aJ (J5 _ _ _ _)) ?_;intro a k h;unfold SE at h;split at h;exact⟨[],rfl,rfl,.trans (by kernel_rfl) h⟩;cases h
end
theorem vQ (N:Nat) (avX:Hs) (avE:BI) (aEd:ab Pg 234 (Yx avX)) (aBF:ab Pg 233 (TA avE)):ab Pg 221 (jc (jf N avX avE)):=by
 refine gfZ N false (aa aEd (aa aBF (ae _))) 0 ?_;intro a k h;unfold pK at h;split at h;exact⟨[],rfl,rfl,.trans (by kernel_rfl) h⟩;cases h
theorem ahQ (N:Nat) (awo:Bx) (aBw:ab Pg 231 (Th awo)):ab Pg 224 (V_ (amh N awo)):=by
 refine gfV N (aa aBw (ae _)) 0 ?_;intro a k h;unfold aly at h;split at h;exact⟨[],rfl,rfl,.trans (by kernel_rfl) h⟩;cases h
def ib:StSh:=⟨(.any::.any::.int .u64::sqs 5 (.int .u64::.int .u64::.int .u64::.int .u64::.any::.int .u64::.int .u64::.int .u64::.int .u64::sqs 118 [])),[]⟩
def vx:StSh:=⟨(.any::.any::.int .u64::sqs 5 (.int .u64::.int .u64::.int .u64::.int .u64::.any::.int .u64::.int .u64::.int .u64::sqs 119 [])),[]⟩
section
variable (N:Nat) (asY:uE)
noncomputable abbrev N3:Cx:=⟨Pg,ao [(224,(V_ asY))],aB,N⟩
def g_:List Atom->K->Bool:=λa_ κ=>match a_ with
 | [.int y_1,.int s,.int yn1,.int yn0,.int un32,.int un1,.int un0,.int q1,.int rhat]=>ah N (E4 N asY y_1 s yn1 yn0 un32 un1 un0 (λr7=>κ.ext 0 (vx.build [.int y_1,.int s,.int yn1,.int yn0,.int un32,.int un1,.int un0,.int r7]))) (q1,rhat)
 | _=>false
def ic:StSh:=⟨(.any::.any::.int .u64::sqs 5 (.int .u64::.int .u64::.int .u64::.any::.any::.any::.int .u64::.int .u64::.int .u64::.int .u64::.int .u64::sqs 116 [])),[]⟩
def vy:StSh:=⟨(.any::.any::.int .u64::sqs 5 (.int .u64::sqs 5 (.int .u64::.int .u64::.any::.int .u64::.int .u64::sqs 116 []))),[]⟩
def hI:List Atom->K->Bool:=λa_ κ=>match a_ with
 | [.int y_2,.int s_1,.int ay0,.int aAt,.int azQ,.int aBU,.int awk,.int un21,.int q0]=>ah N (E5 N asY y_2 s_1 ay0 aAt azQ aBU un21 (λr5=>κ.ext 2 (vy.build [.int y_2,.int s_1,.int azQ,.int aBU,.int un21,.int r5]))) (awk,q0)
 | _=>false
def NA:Nat->Option Ann:=λb_=>cond (b_==0) (some ⟨⟨[2,8,9,10,11,13,14,15,16],[],[],[]⟩,[(0,⟨[2,8,9,10,11,13,14,15],[],[],[]⟩)],some ⟨[6,7],[],[],[]⟩,some (ay [(ib,g_ N asY)])⟩) (cond (b_==2) (some ⟨⟨[2,8,9,10,14,15,16,17,18],[],[],[]⟩,[(2,⟨[2,8,14,15,17,18],[],[],[]⟩)],some ⟨[6,7],[],[],[]⟩,some (ay [(ic,hI N asY)])⟩) (none))
theorem va:az (N3 N asY) 0 (NA N asY) (lp Pg 235 0) (ib,g_ N asY):=by
 intro a κ h;simp only at h;unfold g_ at h;split at h
 ·rename_i y_1 s yn1 yn0 un32 un1 un0 q1 rhat;exact .trans (aA (λ(v_:Int × Int)=>ib.build [.int y_1,.int s,.int yn1,.int yn0,.int un32,.int un1,.int un0,.int v_.1,.int v_.2]) (λv_ K_=>by obtain⟨q1,rhat⟩:=v_; kernel_rfl) N (q1,rhat)) h
 ·cases h
theorem vb:az (N3 N asY) 0 (NA N asY) (lp Pg 235 1) (ic,hI N asY):=by
 intro a κ h;simp only at h;unfold hI at h;split at h
 ·rename_i y_2 s_1 ay0 aAt azQ aBU awk un21 q0;exact .trans (aA (λ(v_:Int × Int)=>ic.build [.int y_2,.int s_1,.int ay0,.int aAt,.int azQ,.int aBU,.int v_.1,.int un21,.int v_.2]) (λv_ K_=>by obtain⟨awk,q0⟩:=v_; kernel_rfl) N (awk,q0)) h
 ·cases h
theorem zg:aC (N3 N asY) 0 (NA N asY) (lp Pg 235 0):=
 au [(ib,g_ N asY)] (by kernel_rfl) ⟨va _ _,trivial⟩
theorem zh:aC (N3 N asY) 0 (NA N asY) (lp Pg 235 1):=
 au [(ic,hI N asY)] (by kernel_rfl) ⟨vb _ _,trivial⟩
theorem aih (aCo:ab Pg 224 (V_ asY)):ab Pg 235 (M7 (ahj N asY)):=by
 refine bH (cx:=(N3 N asY)) (aD (aa aCo (ae _)) (by kernel_rfl)) aeF (agj (ahj N asY)) (NA N asY) 2 0 (by kernel_rfl) (iL (zg _ _) (zh _ _)) ?_;intro a k h;unfold agj at h;split at h;exact⟨[],rfl,rfl,.trans (by kernel_rfl) h⟩;cases h
def lL:StSh:=⟨(.roi .u64::.int .u64::sqs 4 (.slw 0::.int .u64::.int .i64::sqs 26 [])),[some (23,1,.ints .u64)]⟩
def Cy:StSh:=⟨(sqs 6 (.slw 0::.int .u64::sqs 27 [])),[some (23,1,.ints .u64)]⟩
end
section
variable (N:Nat) (atD:xy) (SQ9:lQ)
noncomputable abbrev aaI:Cx:=⟨Pg,ao [(235,(M7 atD)),(207,(FQ9 SQ9))],aB,N⟩
def lE:List Atom->K->Bool:=λa_ κ=>match a_ with
 | [.ints x_1,.int d_1,.int rest,.int i,.ints q]=>ah N (o7 N atD SQ9 x_1 d_1 (λr0 r1=>κ.ext 0 (Cy.build [.int r0,.ints r1]))) (rest,i,q)
 | _=>false
def Qj:Nat->Option Ann:=λb_=>cond (b_==0) (some ⟨⟨[0,1,6,7,8],[],[],[]⟩,[(0,⟨[6,7],[],[],[]⟩)],some ⟨[4,5],[],[],[]⟩,some (ay [(lL,lE N atD SQ9)])⟩) (none)
theorem B7:az (aaI N atD SQ9) 0 (Qj N atD SQ9) (lp Pg 223 0) (lL,lE N atD SQ9):=by
 intro a κ h;simp only at h;unfold lE at h;split at h
 ·rename_i x_1 d_1 rest i q;exact .trans (aA (λ(v_:Int × Int × LI)=>lL.build [.ints x_1,.int d_1,.int v_.1,.int v_.2.1,.ints v_.2.2]) (λv_ K_=>by obtain⟨rest,i,q⟩:=v_; kernel_rfl) N (rest,i,q)) h
 ·cases h
theorem IG:aC (aaI N atD SQ9) 0 (Qj N atD SQ9) (lp Pg 223 0):=
 au [(lL,lE N atD SQ9)] (by kernel_rfl) ⟨B7 _ _ _,trivial⟩
theorem ab7 (aBN:ab Pg 235 (M7 atD)) (hQ9:ab Pg 207 (FQ9 SQ9)):ab Pg 223 (Tg (TU N atD SQ9)):=by
 refine aT (md:=false) (cx:=(aaI N atD SQ9)) (aD (aa aBN (aa hQ9 (ae _))) (by kernel_rfl)) VD (Sn (TU N atD SQ9)) (Qj N atD SQ9) 1 0 (by kernel_rfl) (aJ (IG _ _ _)) ?_;intro a k h;unfold Sn at h;split at h;exact⟨[],rfl,rfl,.trans (by kernel_rfl) h⟩;cases h
def iX:StSh:=⟨(sqs 5 (.int .i64::.int .u64::.slw 0::sqs 16 (.roi .u64::.int .i64::.int .i64::sqs 28 []))),[some (23,1,.ints .u64)]⟩
def xp:StSh:=⟨(sqs 7 (.slw 0::sqs 47 [])),[some (23,1,.ints .u64)]⟩
end
section
variable (N:Nat) (SQ9:lQ)
noncomputable abbrev aaJ:Cx:=⟨Pg,ao [(207,(FQ9 SQ9))],aB,N⟩
def iV:List Atom->K->Bool:=λa_ κ=>match a_ with
 | [.int words,.int rest,.ints t24,.int t25,.int t26,.ints z]=>ah N (uh N SQ9 words rest t24 t25 (λr0=>κ.ext 0 (xp.build [.ints r0]))) (t26,z)
 | _=>false
def aaf:Nat->Option Ann:=λb_=>cond (b_==0) (some ⟨⟨[5,6,7,24,25,26],[],[],[]⟩,[(0,⟨[7],[],[],[]⟩)],some ⟨[4],[],[],[]⟩,some (ay [(iX,iV N SQ9)])⟩) (none)
theorem wX:az (aaJ N SQ9) 0 (aaf N SQ9) (lp Pg 188 0) (iX,iV N SQ9):=by
 intro a κ h;simp only at h;unfold iV at h;split at h
 ·rename_i words rest t24 t25 t26 z;exact .trans (aA (λ(v_:Int × LI)=>iX.build [.int words,.int rest,.ints t24,.int t25,.int v_.1,.ints v_.2]) (λv_ K_=>by obtain⟨t26,z⟩:=v_; kernel_rfl) N (t26,z)) h
 ·cases h
theorem Cb:aC (aaJ N SQ9) 0 (aaf N SQ9) (lp Pg 188 0):=
 au [(iX,iV N SQ9)] (by kernel_rfl) ⟨wX _ _,trivial⟩
theorem aiy (hQ9:ab Pg 207 (FQ9 SQ9)):ab Pg 188 (agX (aho N SQ9)):=by
 refine bH (cx:=(aaJ N SQ9)) (aD (aa hQ9 (ae _)) (by kernel_rfl)) aeK (agr (aho N SQ9)) (aaf N SQ9) 1 0 (by kernel_rfl) (aJ (Cb _ _)) ?_;intro a k h;unfold agr at h;split at h;exact⟨[],rfl,rfl,.trans (by kernel_rfl) h⟩;cases h
def j6:StSh:=⟨(.sl 0::.roi .u64::.any::.any::.any::.int .i64::.int .u64::.int .u64::sqs 78 []),[some (23,1,.ints .u64)]⟩
def zX:StSh:=⟨(sqs 4 (.int .u64::sqs 81 [])),[some (23,1,.ints .u64)]⟩
end
section
variable (N:Nat) (atD:xy) (auf:yy) (asn:mP)
noncomputable abbrev aaK:Cx:=⟨Pg,ao [(235,(M7 atD)),(227,(P1 auf)),(228,(FX asn))],aB,N⟩
def jU:List Atom->K->Bool:=λa_ κ=>match a_ with
 | [.nat u,.nat u_2,.ints v_1,.int n,.int q,.int rest,.ints u_3]=>ah N (wl N atD auf asn u u_2 v_1 n u_3 (λr0=>κ.ret (zX.build [.int r0,.ints u_3]))) (q,rest)
 | _=>false
def Qf:Nat->Option Ann:=λb_=>cond (b_==0) (some ⟨⟨[0,1,5,6,7],[],[],[]⟩,[],some ⟨[4],[],[],[]⟩,some (ay [(j6,jU N atD auf asn)])⟩) (none)
theorem zc:az (aaK N atD auf asn) 1 (Qf N atD auf asn) (lp Pg 236 0) (j6,jU N atD auf asn):=by
 intro a κ h;simp only at h;unfold jU at h;split at h
 ·rename_i u u_2 v_1 n q rest u_3;exact .trans (aA (λ(v_:Int × Int)=>j6.build [.nat u,.nat u_2,.ints v_1,.int n,.int v_.1,.int v_.2,.ints u_3]) (λv_ K_=>by obtain⟨q,rest⟩:=v_; kernel_rfl) N (q,rest)) h
 ·cases h
theorem EC:aC (aaK N atD auf asn) 1 (Qf N atD auf asn) (lp Pg 236 0):=
 au [(j6,jU N atD auf asn)] (by kernel_rfl) ⟨zc _ _ _ _,trivial⟩
theorem abG (aBN:ab Pg 235 (M7 atD)) (aBP:ab Pg 227 (P1 auf)) (azd:ab Pg 228 (FX asn)):ab Pg 236 (SZ (YT N atD auf asn)):=by
 refine aT (md:=false) (cx:=(aaK N atD auf asn)) (aD (aa aBN (aa aBP (aa azd (ae _)))) (by kernel_rfl)) Vy (R_ (YT N atD auf asn)) (Qf N atD auf asn) 1 1 (by kernel_rfl) (aJ (EC _ _ _ _)) ?_;intro a k h;unfold R_ at h;split at h;exact⟨[_],rfl,rfl,.trans (by kernel_rfl) h⟩;cases h
def kQ:StSh:=⟨(.sl 0::.roi .u64::.any::.any::.any::.int .i64::.int .u64::.int .u64::.int .u64::sqs 8 (.int .i64::.int .i64::sqs 80 [])),[some (23,1,.ints .u64)]⟩
def AX:StSh:=⟨(.sl 0::.roi .u64::.any::.any::.any::.int .i64::.int .u64::.int .u64::.int .u64::sqs 90 []),[some (23,1,.ints .u64)]⟩
end
section
variable (N:Nat) (atw:Bo) (asw:pG) (asO:tw) (asn:mP)
noncomputable abbrev Id:Cx:=⟨Pg,ao [(236,(SZ atw)),(211,(JW asw)),(237,(PW asO)),(228,(FX asn))],aB,N⟩
def kH:List Atom->K->Bool:=λa_ κ=>match a_ with
 | [.nat u,.nat u_2,.ints v_1,.int n,.int q,.int carry,.int borrow,.int t17,.int t18,.ints u_3]=>ah N (xM N atw asw asO asn u u_2 v_1 n q t17 (λr5 r6 r7=>κ.ext 0 (AX.build [.nat u,.nat u_2,.ints v_1,.int n,.int q,.int r5,.int r6,.ints r7]))) (carry,borrow,t18,u_3)
 | _=>false
def kS:StSh:=⟨(.sl 0::.roi .u64::.any::.any::.any::.int .i64::.int .u64::.int .u64::.int .u64::sqs 51 (.int .i64::.int .i64::sqs 37 [])),[some (23,1,.ints .u64)]⟩
def AZ:StSh:=⟨(.sl 0::.roi .u64::.any::.any::.any::.int .i64::.int .u64::.int .u64::.int .u64::sqs 90 []),[some (23,1,.ints .u64)]⟩
def kJ:List Atom->K->Bool:=λa_ κ=>match a_ with
 | [.nat u_8,.nat u_9,.ints v_3,.int n_2,.int q_2,.int at6,.int au1,.int t60,.int t61,.ints auH]=>ah N (xO N atw asw asO asn u_8 u_9 v_3 n_2 q_2 au1 t60 (λr5 r7=>κ.ext 4 (AZ.build [.nat u_8,.nat u_9,.ints v_3,.int n_2,.int q_2,.int r5,.int au1,.ints r7]))) (at6,t61,auH)
 | _=>false
def kR:StSh:=⟨(.sl 0::.roi .u64::.any::.any::.any::.int .i64::.int .u64::.any::.int .u64::sqs 90 []),[some (23,1,.ints .u64)]⟩
def AY:StSh:=⟨(sqs 6 (.int .u64::sqs 92 [])),[some (23,1,.ints .u64)]⟩
def kI:List Atom->K->Bool:=λa_ κ=>match a_ with
 | [.nat u_5,.nat u_6,.ints v_2,.int n_1,.int q_1,.int atV,.ints u_7]=>ah N (xN N atw asw asO asn u_5 u_6 v_2 n_1 (λr0 r1=>κ.ext 2 (AY.build [.int r0,.ints r1]))) (q_1,atV,u_7)
 | _=>false
def BQ:Nat->Option Ann:=λb_=>cond (b_==0) (some ⟨⟨[0,1,5,6,7,8,17,18],[],[],[]⟩,[(0,⟨[0,1,5,6,7,8],[],[],[]⟩)],some ⟨[4],[],[],[]⟩,some (ay [(kQ,kH N atw asw asO asn)])⟩) (cond (b_==4) (some ⟨⟨[0,1,5,6,7,8,60,61],[],[],[]⟩,[(4,⟨[0,1,5,6,7,8],[],[],[]⟩)],some ⟨[4],[],[],[]⟩,some (ay [(kS,kJ N atw asw asO asn)])⟩) (cond (b_==2) (some ⟨⟨[0,1,5,6,8],[],[],[]⟩,[(2,⟨[6],[],[],[]⟩)],some ⟨[4],[],[],[]⟩,some (ay [(kR,kI N atw asw asO asn)])⟩) (none)))
theorem AJ:az (Id N atw asw asO asn) 1 (BQ N atw asw asO asn) (lp Pg 225 0) (kQ,kH N atw asw asO asn):=by
 intro a κ h;simp only at h;unfold kH at h;split at h
 ·rename_i u u_2 v_1 n q carry borrow t17 t18 u_3;exact .trans (aA (λ(v_:Int × Int × Int × LI)=>kQ.build [.nat u,.nat u_2,.ints v_1,.int n,.int q,.int v_.1,.int v_.2.1,.int t17,.int v_.2.2.1,.ints v_.2.2.2]) (λv_ K_=>by obtain⟨carry,borrow,t18,u_3⟩:=v_; kernel_rfl) N (carry,borrow,t18,u_3)) h
 ·cases h
theorem AL:az (Id N atw asw asO asn) 1 (BQ N atw asw asO asn) (lp Pg 225 2) (kS,kJ N atw asw asO asn):=by
 intro a κ h;simp only at h;unfold kJ at h;split at h
 ·rename_i u_8 u_9 v_3 n_2 q_2 at6 au1 t60 t61 auH;exact .trans (aA (λ(v_:Int × Int × LI)=>kS.build [.nat u_8,.nat u_9,.ints v_3,.int n_2,.int q_2,.int v_.1,.int au1,.int t60,.int v_.2.1,.ints v_.2.2]) (λv_ K_=>by obtain⟨at6,t61,auH⟩:=v_; kernel_rfl) N (at6,t61,auH)) h
 ·cases h
theorem AK:az (Id N atw asw asO asn) 1 (BQ N atw asw asO asn) (lp Pg 225 1) (kR,kI N atw asw asO asn):=by
 intro a κ h;simp only at h;unfold kI at h;split at h
 ·rename_i u_5 u_6 v_2 n_1 q_1 atV u_7;exact .trans (aA (λ(v_:Int × Int × LI)=>kR.build [.nat u_5,.nat u_6,.ints v_2,.int n_1,.int v_.1,.int v_.2.1,.ints v_.2.2]) (λv_ K_=>by obtain⟨q_1,atV,u_7⟩:=v_; kernel_rfl) N (q_1,atV,u_7)) h
 ·cases h
theorem F9:aC (Id N atw asw asO asn) 1 (BQ N atw asw asO asn) (lp Pg 225 0):=
 au [(kQ,kH N atw asw asO asn)] (by kernel_rfl) ⟨AJ _ _ _ _ _,trivial⟩
theorem Ga:aC (Id N atw asw asO asn) 1 (BQ N atw asw asO asn) (lp Pg 225 2):=
 au [(kS,kJ N atw asw asO asn)] (by kernel_rfl) ⟨AL _ _ _ _ _,trivial⟩
theorem F_:aC (Id N atw asw asO asn) 1 (BQ N atw asw asO asn) (lp Pg 225 1):=
 au [(kR,kI N atw asw asO asn)] (by kernel_rfl) ⟨AK _ _ _ _ _,trivial⟩
theorem abJ (aC8:ab Pg 236 (SZ atw)) (aAD:ab Pg 211 (JW asw)) (aBL:ab Pg 237 (PW asO)) (azd:ab Pg 228 (FX asn)):ab Pg 225 (Ta (YW N atw asw asO asn)):=by
 refine aT (md:=false) (cx:=(Id N atw asw asO asn)) (aD (aa aC8 (aa aAD (aa aBL (aa azd (ae _))))) (by kernel_rfl)) Mr (Sa (YW N atw asw asO asn)) (BQ N atw asw asO asn) 3 1 (by kernel_rfl) (λi_ hi_=>by
  match i_,hi_ with
  | 0,_=>exact F9 _ _ _ _ _
  | 1,_=>exact F_ _ _ _ _ _
  | 2,_=>exact Ga _ _ _ _ _
  | (q+3),h=>omega) ?_
 intro a k h;unfold Sa at h;split at h;exact⟨[_],rfl,rfl,.trans (by kernel_rfl) h⟩;cases h
def iW:StSh:=⟨(.sl 0::.sl 1::.any::.any::.any::.int .i64::.int .u64::.int .u64::sqs 78 []),[some (23,1,.ints .u64),some (23,1,.ints .u64)]⟩
def xo:StSh:=⟨(sqs 4 (.int .u64::sqs 81 [])),[some (23,1,.ints .u64),some (23,1,.ints .u64)]⟩
end
section
variable (N:Nat) (atD:xy) (auf:yy) (asn:mP)
noncomputable abbrev aaL:Cx:=⟨Pg,ao [(235,(M7 atD)),(227,(P1 auf)),(228,(FX asn))],aB,N⟩
def iU:List Atom->K->Bool:=λa_ κ=>match a_ with
 | [.nat u,.nat u_2,.nat v,.nat v_2,.int n,.int q,.int rest,.ints u_3,.ints v_3]=>ah N (uf N atD auf asn u u_2 v v_2 n u_3 v_3 (λr0=>κ.ret (xo.build [.int r0,.ints u_3,.ints v_3]))) (q,rest)
 | _=>false
def aag:Nat->Option Ann:=λb_=>cond (b_==0) (some ⟨⟨[0,1,5,6,7],[],[],[]⟩,[],some ⟨[4],[],[],[]⟩,some (ay [(iW,iU N atD auf asn)])⟩) (none)
theorem wW:az (aaL N atD auf asn) 2 (aag N atD auf asn) (lp Pg 236 0) (iW,iU N atD auf asn):=by
 intro a κ h;simp only at h;unfold iU at h;split at h
 ·rename_i u u_2 v v_2 n q rest u_3 v_3;exact .trans (aA (λ(v_:Int × Int)=>iW.build [.nat u,.nat u_2,.nat v,.nat v_2,.int n,.int v_.1,.int v_.2,.ints u_3,.ints v_3]) (λv_ K_=>by obtain⟨q,rest⟩:=v_; kernel_rfl) N (q,rest)) h
 ·cases h
theorem Ca:aC (aaL N atD auf asn) 2 (aag N atD auf asn) (lp Pg 236 0):=
 au [(iW,iU N atD auf asn)] (by kernel_rfl) ⟨wW _ _ _ _,trivial⟩
theorem aiA (aBN:ab Pg 235 (M7 atD)) (aBP:ab Pg 227 (P1 auf)) (azd:ab Pg 228 (FX asn)):ab Pg 236 (agZ (ZY N atD auf asn)):=by
 refine aT (md:=false) (cx:=(aaL N atD auf asn)) (aD (aa aBN (aa aBP (aa azd (ae _)))) (by kernel_rfl)) aeM (ags (ZY N atD auf asn)) (aag N atD auf asn) 1 2 (by kernel_rfl) (aJ (Ca _ _ _ _)) ?_;intro a k h;unfold ags at h;split at h;exact⟨[_,_],rfl,rfl,.trans (by kernel_rfl) h⟩;cases h
def jw:StSh:=⟨(.sl 0::.sl 1::.any::.any::.any::.int .i64::.int .u64::.int .u64::.int .u64::sqs 8 (.int .i64::.int .i64::sqs 80 [])),[some (23,1,.ints .u64),some (23,1,.ints .u64)]⟩
def yg:StSh:=⟨(.sl 0::.sl 1::.any::.any::.any::.int .i64::.int .u64::.int .u64::.int .u64::sqs 90 []),[some (23,1,.ints .u64),some (23,1,.ints .u64)]⟩
end
section
variable (N:Nat) (aur:Fb) (asw:pG) (asO:tw) (asn:mP)
noncomputable abbrev Ie:Cx:=⟨Pg,ao [(236,(agZ aur)),(211,(JW asw)),(237,(PW asO)),(228,(FX asn))],aB,N⟩
def jl:List Atom->K->Bool:=λa_ κ=>match a_ with
 | [.nat u,.nat u_2,.nat v,.nat v_2,.int n,.int q,.int carry,.int borrow,.int t17,.int t18,.ints u_3,.ints v_3]=>ah N (MK N aur asw asO asn u u_2 v v_2 n q t17 v_3 (λr6 r7 r8=>κ.ext 0 (yg.build [.nat u,.nat u_2,.nat v,.nat v_2,.int n,.int q,.int r6,.int r7,.ints r8,.ints v_3]))) (carry,borrow,t18,u_3)
 | _=>false
def jy:StSh:=⟨(.sl 0::.sl 1::.any::.any::.any::.int .i64::.int .u64::.int .u64::.int .u64::sqs 51 (.int .i64::.int .i64::sqs 37 [])),[some (23,1,.ints .u64),some (23,1,.ints .u64)]⟩
def yi:StSh:=⟨(.sl 0::.sl 1::.any::.any::.any::.int .i64::.int .u64::.int .u64::.int .u64::sqs 90 []),[some (23,1,.ints .u64),some (23,1,.ints .u64)]⟩
def jo:List Atom->K->Bool:=λa_ κ=>match a_ with
 | [.nat u_8,.nat u_9,.nat v_7,.nat v_8,.int n_2,.int q_2,.int at6,.int au1,.int t60,.int t61,.ints auH,.ints v_9]=>ah N (ML N aur asw asO asn u_8 u_9 v_7 v_8 n_2 q_2 au1 t60 v_9 (λr6 r8=>κ.ext 4 (yi.build [.nat u_8,.nat u_9,.nat v_7,.nat v_8,.int n_2,.int q_2,.int r6,.int au1,.ints r8,.ints v_9]))) (at6,t61,auH)
 | _=>false
def jx:StSh:=⟨(.sl 0::.sl 1::.any::.any::.any::.int .i64::.int .u64::.any::.int .u64::sqs 90 []),[some (23,1,.ints .u64),some (23,1,.ints .u64)]⟩
def yh:StSh:=⟨(sqs 6 (.int .u64::sqs 92 [])),[some (23,1,.ints .u64),some (23,1,.ints .u64)]⟩
def jm:List Atom->K->Bool:=λa_ κ=>match a_ with
 | [.nat u_5,.nat u_6,.nat v_4,.nat v_5,.int n_1,.int q_1,.int atV,.ints u_7,.ints v_6]=>ah N (zT N aur asw asO asn u_5 u_6 v_4 v_5 n_1 v_6 (λr0 r1=>κ.ext 2 (yh.build [.int r0,.ints r1,.ints v_6]))) (q_1,atV,u_7)
 | _=>false
def H7:Nat->Option Ann:=λb_=>cond (b_==0) (some ⟨⟨[0,1,5,6,7,8,17,18],[],[],[]⟩,[(0,⟨[0,1,5,6,7,8],[],[],[]⟩)],some ⟨[4],[],[],[]⟩,some (ay [(jw,jl N aur asw asO asn)])⟩) (cond (b_==4) (some ⟨⟨[0,1,5,6,7,8,60,61],[],[],[]⟩,[(4,⟨[0,1,5,6,7,8],[],[],[]⟩)],some ⟨[4],[],[],[]⟩,some (ay [(jy,jo N aur asw asO asn)])⟩) (cond (b_==2) (some ⟨⟨[0,1,5,6,8],[],[],[]⟩,[(2,⟨[6],[],[],[]⟩)],some ⟨[4],[],[],[]⟩,some (ay [(jx,jm N aur asw asO asn)])⟩) (none)))
theorem xV:az (Ie N aur asw asO asn) 2 (H7 N aur asw asO asn) (lp Pg 225 0) (jw,jl N aur asw asO asn):=by
 intro a κ h;simp only at h;unfold jl at h;split at h
 ·rename_i u u_2 v v_2 n q carry borrow t17 t18 u_3 v_3;exact .trans (aA (λ(v_:Int × Int × Int × LI)=>jw.build [.nat u,.nat u_2,.nat v,.nat v_2,.int n,.int q,.int v_.1,.int v_.2.1,.int t17,.int v_.2.2.1,.ints v_.2.2.2,.ints v_3]) (λv_ K_=>by obtain⟨carry,borrow,t18,u_3⟩:=v_; kernel_rfl) N (carry,borrow,t18,u_3)) h
 ·cases h
theorem xX:az (Ie N aur asw asO asn) 2 (H7 N aur asw asO asn) (lp Pg 225 2) (jy,jo N aur asw asO asn):=by
 intro a κ h;simp only at h;unfold jo at h;split at h
 ·rename_i u_8 u_9 v_7 v_8 n_2 q_2 at6 au1 t60 t61 auH v_9;exact .trans (aA (λ(v_:Int × Int × LI)=>jy.build [.nat u_8,.nat u_9,.nat v_7,.nat v_8,.int n_2,.int q_2,.int v_.1,.int au1,.int t60,.int v_.2.1,.ints v_.2.2,.ints v_9]) (λv_ K_=>by obtain⟨at6,t61,auH⟩:=v_; kernel_rfl) N (at6,t61,auH)) h
 ·cases h
theorem xW:az (Ie N aur asw asO asn) 2 (H7 N aur asw asO asn) (lp Pg 225 1) (jx,jm N aur asw asO asn):=by
 intro a κ h;simp only at h;unfold jm at h;split at h
 ·rename_i u_5 u_6 v_4 v_5 n_1 q_1 atV u_7 v_6;exact .trans (aA (λ(v_:Int × Int × LI)=>jx.build [.nat u_5,.nat u_6,.nat v_4,.nat v_5,.int n_1,.int v_.1,.int v_.2.1,.ints v_.2.2,.ints v_6]) (λv_ K_=>by obtain⟨q_1,atV,u_7⟩:=v_; kernel_rfl) N (q_1,atV,u_7)) h
 ·cases h
theorem Dk:aC (Ie N aur asw asO asn) 2 (H7 N aur asw asO asn) (lp Pg 225 0):=
 au [(jw,jl N aur asw asO asn)] (by kernel_rfl) ⟨xV _ _ _ _ _,trivial⟩
theorem Dm:aC (Ie N aur asw asO asn) 2 (H7 N aur asw asO asn) (lp Pg 225 2):=
 au [(jy,jo N aur asw asO asn)] (by kernel_rfl) ⟨xX _ _ _ _ _,trivial⟩
theorem Dl:aC (Ie N aur asw asO asn) 2 (H7 N aur asw asO asn) (lp Pg 225 1):=
 au [(jx,jm N aur asw asO asn)] (by kernel_rfl) ⟨xW _ _ _ _ _,trivial⟩
theorem aiJ (aEY:ab Pg 236 (agZ aur)) (aAD:ab Pg 211 (JW asw)) (aBL:ab Pg 237 (PW asO)) (azd:ab Pg 228 (FX asn)):ab Pg 225 (ag1 (ahq N aur asw asO asn)):=by
 refine aT (md:=false) (cx:=(Ie N aur asw asO asn)) (aD (aa aEY (aa aAD (aa aBL (aa azd (ae _))))) (by kernel_rfl)) aeO (agv (ahq N aur asw asO asn)) (H7 N aur asw asO asn) 3 2 (by kernel_rfl) (λi_ hi_=>by
  match i_,hi_ with
  | 0,_=>exact Dk _ _ _ _ _
  | 1,_=>exact Dl _ _ _ _ _
  | 2,_=>exact Dm _ _ _ _ _
  | (q+3),h=>omega) ?_
 intro a k h;unfold agv at h;split at h;exact⟨[_,_],rfl,rfl,.trans (by kernel_rfl) h⟩;cases h
def kO:StSh:=⟨(.sl 0::.any::.any::.int .i64::sqs 17 []),[some (23,1,.ints .u64)]⟩
def AV:StSh:=⟨(.sl 0::.any::.any::.int .i64::sqs 17 []),[some (23,1,.ints .u64)]⟩
end
def kF (N:Nat):List Atom->K->Bool:=λa_ κ=>match a_ with
 | [.nat x,.nat x_2,.int n,.ints x_3]=>ah N (Cr N x x_2 x_3 (λr2=>κ.ext 0 (AV.build [.nat x,.nat x_2,.int r2,.ints x_3]))) n
 | _=>false
def Qh (N:Nat):Nat->Option Ann:=λb_=>cond (b_==0) (some ⟨⟨[0,3],[],[],[]⟩,[(0,⟨[0,3],[],[],[]⟩)],some ⟨[2],[],[],[]⟩,some (ay [(kO,kF N)])⟩) (none)
theorem AG (N:Nat):az ⟨Pg,ao [],aB,N⟩ 1 (Qh N) (lp Pg 207 0) (kO,kF N):=by
 intro a κ h;simp only at h;unfold kF at h;split at h
 ·rename_i x x_2 n x_3;exact .trans (aA (λv_=>kO.build [.nat x,.nat x_2,.int v_,.ints x_3]) (λv_ K_=>by kernel_rfl) N n) h
 ·cases h
theorem F7 (N:Nat):aC ⟨Pg,ao [],aB,N⟩ 1 (Qh N) (lp Pg 207 0):=
 au [(kO,kF N)] (by kernel_rfl) ⟨AG _,trivial⟩
theorem abM (N:Nat):ab Pg 207 (Tb (TQ N)):=by
 refine aT (md:=false) (cx:=⟨Pg,ao [],aB,N⟩) (aD (ae _) (by kernel_rfl)) Mt (Sb (TQ N)) (Qh N) 1 1 (by kernel_rfl) (aJ (F7 _)) ?_;intro a k h;unfold Sb at h;split at h;exact⟨[_],rfl,rfl,.trans (by kernel_rfl) h⟩;cases h
theorem ab0 (N:Nat):ab Pg 232 (Te (Y6 N)):=by
 refine gfZ N false (ae _) 1 ?_;intro a k h;unfold afc at h;split at h;exact⟨[_],rfl,rfl,.trans (by kernel_rfl) h⟩;cases h
def j7:StSh:=⟨(.sl 0::sqs 5 (.int .i64::.int .u64::.int .u64::sqs 28 (.sl 0::.int .i64::.int .i64::sqs 42 []))),[some (23,1,.ints .u64)]⟩
def zY:StSh:=⟨(.sl 0::sqs 5 (.int .i64::.int .u64::.int .u64::sqs 73 [])),[some (23,1,.ints .u64)]⟩
section
variable (N:Nat) (at2:Bw) (SQ9:lQ)
noncomputable abbrev N4:Cx:=⟨Pg,ao [(232,(Te at2)),(207,(FQ9 SQ9))],aB,N⟩
def jV:List Atom->K->Bool:=λa_ κ=>match a_ with
 | [.nat x,.nat x_2,.int words,.int rest,.int lost,.nat t37,.nat aAp,.int t38,.int t39,.ints x_3]=>ah N (qf N at2 SQ9 x x_2 words rest t37 aAp t38 x_3 (λr4=>κ.ext 0 (zY.build [.nat x,.nat x_2,.int words,.int rest,.int r4,.ints x_3]))) (lost,t39)
 | _=>false
def j8:StSh:=⟨(.sl 0::sqs 5 (.int .i64::.int .u64::.int .u64::.any::.any::.slw 1::sqs 41 (.int .i64::.int .i64::sqs 27 []))),[some (23,1,.ints .u64),some (23,1,.ints .u64)]⟩
def zZ:StSh:=⟨(sqs 8 (.int .u64::.any::.any::.slw 1::sqs 70 [])),[some (23,1,.ints .u64),some (23,1,.ints .u64)]⟩
def jW:List Atom->K->Bool:=λa_ κ=>match a_ with
 | [.nat x_4,.nat x_5,.int avW,.int awj,.int azg,.int t53,.int t54,.ints x_6,.ints z]=>ah N (mK N at2 SQ9 x_4 x_5 avW awj azg t53 x_6 (λr2=>κ.ext 2 (zZ.build [.int azg,.ints x_6,.ints r2]))) (t54,z)
 | _=>false
def ND:Nat->Option Ann:=λb_=>cond (b_==0) (some ⟨⟨[0,6,7,8,37,38,39],[],[],[]⟩,[(0,⟨[0,6,7,8],[],[],[]⟩)],some ⟨[4,5],[],[],[]⟩,some (ay [(j7,jV N at2 SQ9)])⟩) (cond (b_==2) (some ⟨⟨[0,6,7,8,11,53,54],[],[],[]⟩,[(2,⟨[8,11],[],[],[]⟩)],some ⟨[4,5],[],[],[]⟩,some (ay [(j8,jW N at2 SQ9)])⟩) (none))
theorem zd:az (N4 N at2 SQ9) 1 (ND N at2 SQ9) (lp Pg 226 0) (j7,jV N at2 SQ9):=by
 intro a κ h;simp only at h;unfold jV at h;split at h
 ·rename_i x x_2 words rest lost t37 aAp t38 t39 x_3;exact .trans (aA (λ(v_:Int × Int)=>j7.build [.nat x,.nat x_2,.int words,.int rest,.int v_.1,.nat t37,.nat aAp,.int t38,.int v_.2,.ints x_3]) (λv_ K_=>by obtain⟨lost,t39⟩:=v_; kernel_rfl) N (lost,t39)) h
 ·cases h
theorem ze:az (N4 N at2 SQ9) 1 (ND N at2 SQ9) (lp Pg 226 1) (j8,jW N at2 SQ9):=by
 intro a κ h;simp only at h;unfold jW at h;split at h
 ·rename_i x_4 x_5 avW awj azg t53 t54 x_6 z;exact .trans (aA (λ(v_:Int × LI)=>j8.build [.nat x_4,.nat x_5,.int avW,.int awj,.int azg,.int t53,.int v_.1,.ints x_6,.ints v_.2]) (λv_ K_=>by obtain⟨t54,z⟩:=v_; kernel_rfl) N (t54,z)) h
 ·cases h
theorem ED:aC (N4 N at2 SQ9) 1 (ND N at2 SQ9) (lp Pg 226 0):=
 au [(j7,jV N at2 SQ9)] (by kernel_rfl) ⟨zd _ _ _,trivial⟩
theorem EE:aC (N4 N at2 SQ9) 1 (ND N at2 SQ9) (lp Pg 226 1):=
 au [(j8,jW N at2 SQ9)] (by kernel_rfl) ⟨ze _ _ _,trivial⟩
theorem aiT (aDm:ab Pg 232 (Te at2)) (hQ9:ab Pg 207 (FQ9 SQ9)):ab Pg 226 (ag8 (ZZ N at2 SQ9)):=by
 refine aT (md:=false) (cx:=(N4 N at2 SQ9)) (aD (aa aDm (aa hQ9 (ae _))) (by kernel_rfl)) aeS (agz (ZZ N at2 SQ9)) (ND N at2 SQ9) 2 1 (by kernel_rfl) (iL (ED _ _ _) (EE _ _ _)) ?_;intro a k h;unfold agz at h;split at h;exact⟨[_],rfl,rfl,.trans (by kernel_rfl) h⟩;cases h
end
def jv:StSh:=⟨(sqs 8 (.int .u64::.nil::.sl 0::.int .i64::.slw 1::.int .i64::sqs 80 [])),[some (23,1,.ints .u64),some (23,1,.ints .u64)]⟩
def yf:StSh:=⟨(sqs 8 (.int .u64::.any::.sl 0::.any::.slw 1::sqs 81 [])),[some (23,1,.ints .u64),some (23,1,.ints .u64)]⟩
section
variable (N:Nat) (asq:pF) (asJ:mQ) (as1:yq) (asB:rU) (asY:uE) (atG:Fa) (as3:yn) (atO:Fc) (as4:yo) (atP:Fd) (SQ9:lQ)
noncomputable abbrev Fp:Cx:=⟨Pg,ao [(209,(Lu asq)),(187,(GD asJ)),(223,(Tg as1)),(186,(M8 asB)),(224,(V_ asY)),(188,(agX atG)),(225,(EP (Ta as3) (ag1 atO) Mr)),(207,(EP (Tb as4) (FQ9 SQ9) Mt)),(226,(ag8 atP))],aB,N⟩
def jk:List Atom->K->Bool:=λa_ κ=>match a_ with
 | [.int up,.nat u,.nat u_1,.int n,.int j,.ints u_2,.ints q]=>ah N (JD N asq asJ as1 asB asY atG as3 atO as4 atP SQ9 up u u_1 n (λr3 r4=>κ.ext 0 (yf.build [.int up,.nat u,.nat u_1,.ints r3,.ints r4]))) (j,u_2,q)
 | _=>false
def iA:StSh:=⟨(sqs 8 (.int .u64::.sl 0::.sl 1::.int .i64::.slw 2::.int .i64::sqs 80 [])),[some (23,1,.ints .u64),some (23,1,.ints .u64),some (23,1,.ints .u64)]⟩
def wn:StSh:=⟨(sqs 8 (.int .u64::.any::.sl 0::.any::.slw 1::sqs 81 [])),[some (23,1,.ints .u64),some (23,1,.ints .u64)]⟩
def iv:List Atom->K->Bool:=λa_ κ=>match a_ with
 | [.int aB9,.nat v,.nat v_1,.nat u_5,.nat u_6,.int n_1,.int j_1,.ints v_2,.ints u_7,.ints q_3]=>ah N (Co N asq asJ as1 asB asY atG as3 atO as4 atP SQ9 aB9 v v_1 u_5 u_6 n_1 v_2 (λr3 r4=>κ.ext 0 (wn.build [.int aB9,.nat u_5,.nat u_6,.ints r3,.ints r4]))) (j_1,u_7,q_3)
 | _=>false
def Ff:Nat->Option Ann:=λb_=>cond (b_==0) (some ⟨⟨[8,9,10,11,12,13],[],[],[]⟩,[(0,⟨[8,10,12],[],[],[]⟩)],some ⟨[4,5],[],[],[]⟩,some (ay [(jv,jk N asq asJ as1 asB asY atG as3 atO as4 atP SQ9),(iA,iv N asq asJ as1 asB asY atG as3 atO as4 atP SQ9)])⟩) (none)
theorem xU:az (Fp N asq asJ as1 asB asY atG as3 atO as4 atP SQ9) 0 (Ff N asq asJ as1 asB asY atG as3 atO as4 atP SQ9) (lp Pg 210 0) (jv,jk N asq asJ as1 asB asY atG as3 atO as4 atP SQ9):=by
 intro a κ h;simp only at h;unfold jk at h;split at h
 ·rename_i up u u_1 n j u_2 q;exact .trans (aA (λ(v_:Int × LI × LI)=>jv.build [.int up,.nat u,.nat u_1,.int n,.int v_.1,.ints v_.2.1,.ints v_.2.2]) (λv_ K_=>by obtain⟨j,u_2,q⟩:=v_; kernel_rfl) N (j,u_2,q)) h
 ·cases h
theorem vS:az (Fp N asq asJ as1 asB asY atG as3 atO as4 atP SQ9) 0 (Ff N asq asJ as1 asB asY atG as3 atO as4 atP SQ9) (lp Pg 210 0) (iA,iv N asq asJ as1 asB asY atG as3 atO as4 atP SQ9):=by
 intro a κ h;simp only at h;unfold iv at h;split at h
 ·rename_i aB9 v v_1 u_5 u_6 n_1 j_1 v_2 u_7 q_3;exact .trans (aA (λ(v_:Int × LI × LI)=>iA.build [.int aB9,.nat v,.nat v_1,.nat u_5,.nat u_6,.int n_1,.int v_.1,.ints v_2,.ints v_.2.1,.ints v_.2.2]) (λv_ K_=>by obtain⟨j_1,u_7,q_3⟩:=v_; kernel_rfl) N (j_1,u_7,q_3)) h
 ·cases h
theorem Dj:aC (Fp N asq asJ as1 asB asY atG as3 atO as4 atP SQ9) 0 (Ff N asq asJ as1 asB asY atG as3 atO as4 atP SQ9) (lp Pg 210 0):=
 au [(jv,jk N asq asJ as1 asB asY atG as3 atO as4 atP SQ9),(iA,iv N asq asJ as1 asB asY atG as3 atO as4 atP SQ9)] (by kernel_rfl) ⟨xU _ _ _ _ _ _ _ _ _ _ _ _,vS _ _ _ _ _ _ _ _ _ _ _ _,trivial⟩
def I9 (d_:List V) (u_:List (Option Blk)) (x y:LI) (aBe:Int) (auH:Nat) (avx q_6:LI):St:=⟨(dqs d_ 0 8 (vwu aBe::(dq d_ 8)::.sl 0 0 auH::(dq d_ 9)::.slw 1::dqs d_ 10 81 [])),[some ⟨23,1,.ints .u64 avx⟩,some ⟨23,1,.ints .u64 q_6⟩]⟩
theorem anC (d_:List V) (u_:List (Option Blk)) (x y:LI) (aBe:Int) (auH:Nat) (avx q_6:LI) (c_:KV):aQ (Fp N asq asJ as1 asB asY atG as3 atO as4 atP SQ9) 0 (Ff N asq asJ as1 asB asY atG as3 atO as4 atP SQ9) ((cds Pg 210).drop 12) 0 (I9 d_ u_ x y aBe auH avx q_6) (kB false Pg 210 0 c_)=Kt N asq asJ as1 asB asY atG as3 atO as4 atP SQ9 x y aBe auH avx q_6 (λr0 r1=>c_ (.tup [vwr r0,vwr r1]) []):=by kernel_rfl
theorem De (x y:LI) (c_:KV) (κn_:St->Bool):aQ (Fp N asq asJ as1 asB asY atG as3 atO as4 atP SQ9) 0 (Ff N asq asJ as1 asB asY atG as3 atO as4 atP SQ9) (sg Pg 210 0 12) 0 (st0 Pg 210 (Jr.args [.ints x,.ints y]) []) { (kB false Pg 210 0 c_)with nrm:=κn_ } = (asq x y (λnr=>cond (decide (nr<0)) (asJ x (λnsr=>c_ (.tup [.roi .u64 [],vwr nsr]) [])) (cond (((y.length:Nat):Int)==1) (inR 0 y.length&&as1 x (y.getD 0 0) (λasj ask=>asB ask (λasy=>c_ (.tup [vwr asj,vwr asy]) []))) (aj .i64 (((y.length:Nat):Int) - 1)&&(inR (((y.length:Nat):Int) - 1) y.length&&asY (y.getD (Int.toNat (((y.length:Nat):Int) - 1)) 0) (λasl=>atG y (IntKind.wrap .u64 asl) (atG x (IntKind.wrap .u64 asl) (aj .i64 (((x.length:Nat):Int)+1)&&(decide (0<=(((x.length:Nat):Int)+1)/\(((x.length:Nat):Int)+1)<=2)&&(aj .i64 (((((Int.toNat (((x.length:Nat):Int)+1)) - 0):Nat):Int) - 0)&&(mF 8 (((((Int.toNat (((x.length:Nat):Int)+1)) - 0):Nat):Int) - 0) (((((Int.toNat (((x.length:Nat):Int)+1)) - 0):Nat):Int) - 0)&&(aj .i64 (((((Int.toNat (((x.length:Nat):Int)+1)) - 0):Nat):Int) - 0)&&(aj .i64 ((((((Int.toNat (((x.length:Nat):Int)+1)) - 0):Nat):Int) - 0) - 1)&&ah N (JD N asq asJ as1 asB asY atG as3 atO as4 atP SQ9 (IntKind.wrap .u64 asl) 0 ((Int.toNat (((x.length:Nat):Int)+1)) - 0) 0 (λu_3 q_1=>κn_ (I9 (vqs 91 []) [] x y (IntKind.wrap .u64 asl) ((Int.toNat (((x.length:Nat):Int)+1)) - 0) u_3 q_1))) (((((((Int.toNat (((x.length:Nat):Int)+1)) - 0):Nat):Int) - 0) - 1),([]++[0,0]),(List.replicate (Int.toNat (((((Int.toNat (((x.length:Nat):Int)+1)) - 0):Nat):Int) - 0)) (0:Int))))))))) (λauL asp=>decide ((0+auL)<=asp.length)&&(decide ((List.length ((List.take auL (List.drop 0 asp))++[0,0]))*8<=140737488355328)&&(aj .i64 (((x.length:Nat):Int)+1)&&(decide (0<=(((x.length:Nat):Int)+1)/\(((x.length:Nat):Int)+1)<=(((List.length ((List.take auL (List.drop 0 asp))++[0,0])):Nat):Int))&&(aj .i64 (((((Int.toNat (((x.length:Nat):Int)+1)) - 0):Nat):Int) - 0)&&(mF 8 (((((Int.toNat (((x.length:Nat):Int)+1)) - 0):Nat):Int) - 0) (((((Int.toNat (((x.length:Nat):Int)+1)) - 0):Nat):Int) - 0)&&(aj .i64 (((((Int.toNat (((x.length:Nat):Int)+1)) - 0):Nat):Int) - 0)&&(aj .i64 ((((((Int.toNat (((x.length:Nat):Int)+1)) - 0):Nat):Int) - 0) - 1)&&ah N (JD N asq asJ as1 asB asY atG as3 atO as4 atP SQ9 (IntKind.wrap .u64 asl) 0 ((Int.toNat (((x.length:Nat):Int)+1)) - 0) 0 (λu_4 q_2=>κn_ (I9 (vqs 91 []) [] x y (IntKind.wrap .u64 asl) ((Int.toNat (((x.length:Nat):Int)+1)) - 0) u_4 q_2))) (((((((Int.toNat (((x.length:Nat):Int)+1)) - 0):Nat):Int) - 0) - 1),((List.take auL (List.drop 0 asp))++[0,0]),(List.replicate (Int.toNat (((((Int.toNat (((x.length:Nat):Int)+1)) - 0):Nat):Int) - 0)) (0:Int)))))))))))) (λmr ast=>atG x (IntKind.wrap .u64 asl) (aj .i64 (((x.length:Nat):Int)+1)&&(decide (0<=(((x.length:Nat):Int)+1)/\(((x.length:Nat):Int)+1)<=2)&&(aj .i64 (((((Int.toNat (((x.length:Nat):Int)+1)) - 0):Nat):Int) - ((mr:Nat):Int))&&(mF 8 (((((Int.toNat (((x.length:Nat):Int)+1)) - 0):Nat):Int) - ((mr:Nat):Int)) (((((Int.toNat (((x.length:Nat):Int)+1)) - 0):Nat):Int) - ((mr:Nat):Int))&&(aj .i64 (((((Int.toNat (((x.length:Nat):Int)+1)) - 0):Nat):Int) - ((mr:Nat):Int))&&(aj .i64 ((((((Int.toNat (((x.length:Nat):Int)+1)) - 0):Nat):Int) - ((mr:Nat):Int)) - 1)&&ah N (Co N asq asJ as1 asB asY atG as3 atO as4 atP SQ9 (IntKind.wrap .u64 asl) 0 mr 0 ((Int.toNat (((x.length:Nat):Int)+1)) - 0) ((mr:Nat):Int) ast (λu_8 q_4=>κn_ (I9 (vqs 91 []) [] x y (IntKind.wrap .u64 asl) ((Int.toNat (((x.length:Nat):Int)+1)) - 0) u_8 q_4))) (((((((Int.toNat (((x.length:Nat):Int)+1)) - 0):Nat):Int) - ((mr:Nat):Int)) - 1),([]++[0,0]),(List.replicate (Int.toNat (((((Int.toNat (((x.length:Nat):Int)+1)) - 0):Nat):Int) - ((mr:Nat):Int))) (0:Int))))))))) (λaty aso=>decide ((0+aty)<=aso.length)&&(decide ((List.length ((List.take aty (List.drop 0 aso))++[0,0]))*8<=140737488355328)&&(aj .i64 (((x.length:Nat):Int)+1)&&(decide (0<=(((x.length:Nat):Int)+1)/\(((x.length:Nat):Int)+1)<=(((List.length ((List.take aty (List.drop 0 aso))++[0,0])):Nat):Int))&&(aj .i64 (((((Int.toNat (((x.length:Nat):Int)+1)) - 0):Nat):Int) - ((mr:Nat):Int))&&(mF 8 (((((Int.toNat (((x.length:Nat):Int)+1)) - 0):Nat):Int) - ((mr:Nat):Int)) (((((Int.toNat (((x.length:Nat):Int)+1)) - 0):Nat):Int) - ((mr:Nat):Int))&&(aj .i64 (((((Int.toNat (((x.length:Nat):Int)+1)) - 0):Nat):Int) - ((mr:Nat):Int))&&(aj .i64 ((((((Int.toNat (((x.length:Nat):Int)+1)) - 0):Nat):Int) - ((mr:Nat):Int)) - 1)&&ah N (Co N asq asJ as1 asB asY atG as3 atO as4 atP SQ9 (IntKind.wrap .u64 asl) 0 mr 0 ((Int.toNat (((x.length:Nat):Int)+1)) - 0) ((mr:Nat):Int) ast (λu_9 q_5=>κn_ (I9 (vqs 91 []) [] x y (IntKind.wrap .u64 asl) ((Int.toNat (((x.length:Nat):Int)+1)) - 0) u_9 q_5))) (((((((Int.toNat (((x.length:Nat):Int)+1)) - 0):Nat):Int) - ((mr:Nat):Int)) - 1),((List.take aty (List.drop 0 aso))++[0,0]),(List.replicate (Int.toNat (((((Int.toNat (((x.length:Nat):Int)+1)) - 0):Nat):Int) - ((mr:Nat):Int))) (0:Int)))))))))))))))))):=by kernel_rfl
theorem Dr (x y:LI) (c_:KV):aQ (Fp N asq asJ as1 asB asY atG as3 atO as4 atP SQ9) 0 (Ff N asq asJ as1 asB asY atG as3 atO as4 atP SQ9) ((cds Pg 210).drop 0) 0 (st0 Pg 210 (Jr.args [.ints x,.ints y]) []) (kB false Pg 210 0 c_)=Nc N asq asJ as1 asB asY atG as3 atO as4 atP SQ9 x y (λr0 r1=>c_ (.tup [vwr r0,vwr r1]) []):=by rw[cY 0 12 12 rfl];refine(De N asq asJ as1 asB asY atG as3 atO as4 atP SQ9 x y c_ _).trans ?_;simp only[anC];kernel_rfl
theorem ao5 (x y:LI) (c_:KV):qw false (Fp N asq asJ as1 asB asY atG as3 atO as4 atP SQ9) (Ff N asq asJ as1 asB asY atG as3 atO as4 atP SQ9) 210 (Jr.args [.ints x,.ints y]) [] c_=Nc N asq asJ as1 asB asY atG as3 atO as4 atP SQ9 x y (λr0 r1=>c_ (.tup [vwr r0,vwr r1]) []):=
 (iC (by kernel_rfl)).trans (Dr N asq asJ as1 asB asY atG as3 atO as4 atP SQ9 x y c_)
theorem ah1 (aAy:ab Pg 209 (Lu asq)) (ax3:ab Pg 187 (GD asJ)) (aDs:ab Pg 223 (Tg as1)) (aAF:ab Pg 186 (M8 asB)) (aCo:ab Pg 224 (V_ asY)) (aEW:ab Pg 188 (agX atG)) (aC_:ab Pg 225 (Ta as3)) (aE0:ab Pg 225 (ag1 atO)) (aDb:ab Pg 207 (Tb as4)) (aE8:ab Pg 226 (ag8 atP)) (hQ9:ab Pg 207 (FQ9 SQ9)):ab Pg 210 (M5 (Nc N asq asJ as1 asB asY atG as3 atO as4 atP SQ9)):=by
 refine aT (md:=false) (cx:=(Fp N asq asJ as1 asB asY atG as3 atO as4 atP SQ9)) (aD (aa aAy (aa ax3 (aa aDs (aa aAF (aa aCo (aa aEW (aa (mw aC_ aE0) (aa (mw aDb hQ9) (aa aE8 (ae _)))))))))) (by kernel_rfl)) Jr (af_ (Nc N asq asJ as1 asB asY atG as3 atO as4 atP SQ9)) (Ff N asq asJ as1 asB asY atG as3 atO as4 atP SQ9) 1 0 (by kernel_rfl) (aJ (Dj _ _ _ _ _ _ _ _ _ _ _ _)) ?_;intro a k h;unfold af_ at h;split at h;exact⟨[],rfl,rfl,(ao5 _ _ _ _ _ _ _ _ _ _ _ _ _ _ _).trans h⟩;cases h
end
theorem acA (N:Nat) (as6:pO) (aza:ab Pg 232 (E9 as6)):ab Pg 222 (Tq (Zs N as6)):=by
 refine gfZ N false (aa aza (ae _)) 0 ?_;intro a k h;unfold afB at h;split at h;exact⟨[],rfl,rfl,.trans (by kernel_rfl) h⟩;cases h
def j4:StSh:=⟨(.roi .u64::.roi .u64::sqs 80 []),[]⟩
def zV:StSh:=⟨(.roi .u64::.roi .u64::sqs 80 []),[]⟩
section
variable (N:Nat) (asq:pF) (asU:Bp) (asT:BF) (asV:Bu) (ar4:dx) (asG:tv) (asS:BE) (asB:rU)
noncomputable abbrev yL:Cx:=⟨Pg,ao [(209,(Lu asq)),(218,(S0 asU)),(220,(Ts asT)),(219,(Tc asV)),(221,(jc ar4)),(210,(M5 asG)),(222,(Tq asS)),(186,(M8 asB))],aB,N⟩
def jS:List Atom->K->Bool:=λa_ κ=>match a_ with
 | [.ints x_2,.ints y_2]=>ah N (E0 N asq asU asT asV ar4 asG asS asB (λr0 r1=>κ.ext 0 (zV.build [.ints r0,.ints r1]))) (x_2,y_2)
 | _=>false
def j5:StSh:=⟨(sqs 11 (.int .u64::.int .u64::sqs 69 [])),[]⟩
def zW:StSh:=⟨(sqs 11 (.int .u64::sqs 70 [])),[]⟩
def jT:List Atom->K->Bool:=λa_ κ=>match a_ with
 | [.int a,.int b]=>ah N (JI N asq asU asT asV ar4 asG asS asB (λr0=>κ.ext 2 (zW.build [.int r0]))) (a,b)
 | _=>false
def yD:Nat->Option Ann:=λb_=>cond (b_==0) (some ⟨⟨[0,1],[],[],[]⟩,[(0,⟨[0,1],[],[],[]⟩)],some ⟨[4],[],[],[]⟩,some (ay [(j4,jS N asq asU asT asV ar4 asG asS asB)])⟩) (cond (b_==2) (some ⟨⟨[11,12],[],[],[]⟩,[(2,⟨[11],[],[],[]⟩)],some ⟨[4],[],[],[]⟩,some (ay [(j5,jT N asq asU asT asV ar4 asG asS asB)])⟩) (none))
theorem za:az (yL N asq asU asT asV ar4 asG asS asB) 0 (yD N asq asU asT asV ar4 asG asS asB) (lp Pg 208 0) (j4,jS N asq asU asT asV ar4 asG asS asB):=by
 intro a κ h;simp only at h;unfold jS at h;split at h
 ·rename_i x_2 y_2;exact .trans (aA (λ(v_:LI × LI)=>j4.build [.ints v_.1,.ints v_.2]) (λv_ K_=>by obtain⟨x_2,y_2⟩:=v_; kernel_rfl) N (x_2,y_2)) h
 ·cases h
theorem zb:az (yL N asq asU asT asV ar4 asG asS asB) 0 (yD N asq asU asT asV ar4 asG asS asB) (lp Pg 208 1) (j5,jT N asq asU asT asV ar4 asG asS asB):=by
 intro a κ h;simp only at h;unfold jT at h;split at h
 ·rename_i a b;exact .trans (aA (λ(v_:Int × Int)=>j5.build [.int v_.1,.int v_.2]) (λv_ K_=>by obtain⟨a,b⟩:=v_; kernel_rfl) N (a,b)) h
 ·cases h
theorem EA:aC (yL N asq asU asT asV ar4 asG asS asB) 0 (yD N asq asU asT asV ar4 asG asS asB) (lp Pg 208 0):=
 au [(j4,jS N asq asU asT asV ar4 asG asS asB)] (by kernel_rfl) ⟨za _ _ _ _ _ _ _ _ _,trivial⟩
theorem EB:aC (yL N asq asU asT asV ar4 asG asS asB) 0 (yD N asq asU asT asV ar4 asG asS asB) (lp Pg 208 1):=
 au [(j5,jT N asq asU asT asV ar4 asG asS asB)] (by kernel_rfl) ⟨zb _ _ _ _ _ _ _ _ _,trivial⟩
def Mh (d_:List V) (u_:List (Option Blk)) (x y x_4 y_4:LI):St:=⟨(vwr x_4::vwr y_4::dqs d_ 0 80 []),[]⟩
def Md (d_:List V) (u_:List (Option Blk)) (x y x_1 y_1:LI):St:=⟨(vwr x_1::vwr y_1::dqs d_ 0 80 []),[]⟩
theorem anM (d_:List V) (u_:List (Option Blk)) (x y x_4 y_4:LI) (c_:KV):aQ (yL N asq asU asT asV ar4 asG asS asB) 0 (yD N asq asU asT asV ar4 asG asS asB) ((cds Pg 208).drop 6) 0 (Mh d_ u_ x y x_4 y_4) (kB false Pg 208 0 c_)=CG N asq asU asT asV ar4 asG asS asB x y x_4 y_4 (λr0=>c_ (vwr r0) []):=by kernel_rfl
theorem ans (d_:List V) (u_:List (Option Blk)) (x y x_1 y_1:LI) (c_:KV) (κn_:St->Bool):aQ (yL N asq asU asT asV ar4 asG asS asB) 0 (yD N asq asU asT asV ar4 asG asS asB) (sg Pg 208 3 3) 0 (Md d_ u_ x y x_1 y_1) { (kB false Pg 208 0 c_)with nrm:=κn_ } = (ah N (E0 N asq asU asT asV ar4 asG asS asB (λx_3 y_3=>cond ((decide (((y_3.length:Nat):Int)>0))==true) (cond (decide (((x_3.length:Nat):Int)>1)) (asG x_3 y_3 (λasp aso=>κn_ (Mh (vqs 7 (vwr asp::vwr aso::vqs 39 (vwr y_3::vwi ((y_3.length:Nat):Int)::.bool (decide (((y_3.length:Nat):Int)>0))::.bool true::vwr x_3::vwi ((x_3.length:Nat):Int)::.bool (decide (((x_3.length:Nat):Int)>1))::.bool true::.tup [vwr asp,vwr aso]::vwr x_3::vwr y_3::.tup [vwr asp,vwr aso]::vwr asp::vwr aso::vwr y_3::vwr aso::vqs 16 []))) [] x y y_3 aso))) (κn_ (Mh (vqs 48 (vwr y_3::vwi ((y_3.length:Nat):Int)::.bool (decide (((y_3.length:Nat):Int)>0))::.bool true::vwr x_3::vwi ((x_3.length:Nat):Int)::.bool (decide (((x_3.length:Nat):Int)>1))::.bool false::vqs 24 [])) [] x y x_3 y_3))) (κn_ (Mh (vqs 48 (vwr y_3::vwi ((y_3.length:Nat):Int)::.bool (decide (((y_3.length:Nat):Int)>0))::.bool false::.val undef::.val undef::.val undef::.bool false::vqs 24 [])) [] x y x_3 y_3)))) (x_1,y_1)):=by kernel_rfl
theorem anF (d_:List V) (u_:List (Option Blk)) (x y x_1 y_1:LI) (c_:KV):aQ (yL N asq asU asT asV ar4 asG asS asB) 0 (yD N asq asU asT asV ar4 asG asS asB) ((cds Pg 208).drop 3) 0 (Md d_ u_ x y x_1 y_1) (kB false Pg 208 0 c_)=Ng N asq asU asT asV ar4 asG asS asB x y x_1 y_1 (λr0=>c_ (vwr r0) []):=by rw[cY 3 3 6 rfl];refine(ans N asq asU asT asV ar4 asG asS asB d_ u_ x y x_1 y_1 c_ _).trans ?_;simp only[anM];kernel_rfl
theorem Ew (x y:LI) (c_:KV) (κn_:St->Bool):aQ (yL N asq asU asT asV ar4 asG asS asB) 0 (yD N asq asU asT asV ar4 asG asS asB) (sg Pg 208 0 3) 0 (st0 Pg 208 (Ju.args [.ints x,.ints y]) []) { (kB false Pg 208 0 c_)with nrm:=κn_ } = (asq x y (λnr=>cond (decide (nr<0)) (κn_ (Md (.any::.any::.nil::vqs 8 (vwr x::vwr y::vwi nr::.bool true::vwr y::vwr x::vqs 63 [])) [] x y y x)) (κn_ (Md (.any::.any::.nil::vqs 8 (vwr x::vwr y::vwi nr::.bool false::vqs 65 [])) [] x y x y)))):=by kernel_rfl
theorem EF (x y:LI) (c_:KV):aQ (yL N asq asU asT asV ar4 asG asS asB) 0 (yD N asq asU asT asV ar4 asG asS asB) ((cds Pg 208).drop 0) 0 (st0 Pg 208 (Ju.args [.ints x,.ints y]) []) (kB false Pg 208 0 c_)=Wm N asq asU asT asV ar4 asG asS asB x y (λr0=>c_ (vwr r0) []):=by rw[cY 0 3 3 rfl];refine(Ew N asq asU asT asV ar4 asG asS asB x y c_ _).trans ?_;simp only[anF];kernel_rfl
theorem ao_ (x y:LI) (c_:KV):qw false (yL N asq asU asT asV ar4 asG asS asB) (yD N asq asU asT asV ar4 asG asS asB) 208 (Ju.args [.ints x,.ints y]) [] c_=Wm N asq asU asT asV ar4 asG asS asB x y (λr0=>c_ (vwr r0) []):=
 (iC (by kernel_rfl)).trans (EF N asq asU asT asV ar4 asG asS asB x y c_)
theorem aiF (aAy:ab Pg 209 (Lu asq)) (aC9:ab Pg 218 (S0 asU)) (aDM:ab Pg 220 (Ts asT)) (aDg:ab Pg 219 (Tc asV)) (aw4:ab Pg 221 (jc ar4)) (aBK:ab Pg 210 (M5 asG)) (aDL:ab Pg 222 (Tq asS)) (aAF:ab Pg 186 (M8 asB)):ab Pg 208 (P2 (Wm N asq asU asT asV ar4 asG asS asB)):=by
 refine aT (md:=false) (cx:=(yL N asq asU asT asV ar4 asG asS asB)) (aD (aa aAy (aa aC9 (aa aDM (aa aDg (aa aw4 (aa aBK (aa aDL (aa aAF (ae _))))))))) (by kernel_rfl)) Ju (agt (Wm N asq asU asT asV ar4 asG asS asB)) (yD N asq asU asT asV ar4 asG asS asB) 2 0 (by kernel_rfl) (iL (EA _ _ _ _ _ _ _ _ _) (EB _ _ _ _ _ _ _ _ _)) ?_;intro a k h;unfold agt at h;split at h;exact⟨[],rfl,rfl,(ao_ _ _ _ _ _ _ _ _ _ _ _ _).trans h⟩;cases h
end
theorem ah_ (N:Nat):ab Pg 185 (Wd (ZV N)):=by
 refine gfZ N false (ae _) 1 ?_;intro a k h;unfold alL at h;split at h;exact⟨[_],rfl,rfl,.trans (by kernel_rfl) h⟩;cases h
theorem aiw (N:Nat):ab Pg 185 (YJ (ahn N)):=by
 refine gfZ N false (ae _) 1 ?_;intro a k h;unfold alW at h;split at h;exact⟨[_],rfl,rfl,.trans (by kernel_rfl) h⟩;cases h
section
variable (N:Nat) (at8:vC) (asq:pF) (asG:tv) (asJ:mQ) (auF:yv) (au5:CR)
noncomputable abbrev N5:Cx:=⟨Pg,ao [(208,(P2 at8)),(209,(Lu asq)),(210,(M5 asG)),(187,(GD asJ)),(185,(EP (Wd auF) (YJ au5) Mu))],aB,N⟩
def HV (N:Nat) (at8:vC) (asq:pF) (asG:tv) (asJ:mQ) (auF:yv) (au5:CR):Nat->Option Ann:=λb_=>none
def Rm (d_:List V) (u_:List (Option Blk)) (neg:Bool) (a b:LI) (b_1 b_2:Bool) (a_1 b_3:LI):St:=⟨(.ptr 0 0::.bool neg::vwr a_1::vwr b_3::dqs d_ 0 39 []),[some ⟨210,1,.cells [.bool b_1,.nil,.bool b_2,.nil]⟩,(u_.getD 0 none)]⟩
theorem anJ (d_:List V) (u_:List (Option Blk)) (neg:Bool) (a b:LI) (b_1 b_2:Bool) (a_1 b_3:LI) (c_:KV):aQ (N5 N at8 asq asG asJ auF au5) 1 (HV N at8 asq asG asJ auF au5) ((cds Pg 190).drop 4) 0 (Rm d_ u_ neg a b b_1 b_2 a_1 b_3) (kB false Pg 190 1 c_)=Nh N at8 asq asG asJ auF au5 neg a b b_1 b_2 a_1 b_3 (λr0 r1 r2 r3=>c_ (.ptr 0 0) [⟨210,1,.cells [.bool r0,vwr r1,.bool r2,vwr r3]⟩]):=by kernel_rfl
theorem anw (neg:Bool) (a b:LI) (b_1 b_2:Bool) (c_:KV) (κn_:St->Bool):aQ (N5 N at8 asq asG asJ auF au5) 1 (HV N at8 asq asG asJ auF au5) (sg Pg 190 0 4) 0 (st0 Pg 190 (DN.args [.bool neg,.ints a,.ints b,.bool b_1,.bool b_2]) [⟨210,1,.cells [.bool b_1,.nil,.bool b_2,.nil]⟩]) { (kB false Pg 190 1 c_)with nrm:=κn_ } = (at8 a b (λnsr=>asq nsr [1] (λnr=>cond (nr != 0) (asG a nsr (λasj asy=>asG b nsr (λast asp=>κn_ (Rm (vqs 4 (.val (.pointer none)::vwr nsr::vwr a::vwr b::vwr nsr::vwr nsr::.slw 1::vwi nr::.bool true::.tup [vwr asj,vwr asy]::vwr a::vwr nsr::.tup [vwr asj,vwr asy]::vwr asj::vwr asy::.tup [vwr ast,vwr asp]::vwr b::vwr nsr::.tup [vwr ast,vwr asp]::vwr ast::vwr asp::vqs 14 [])) [some ⟨23,1,.ints .u64 [1]⟩] neg a b b_1 b_2 asj ast)))) (κn_ (Rm (vqs 4 (.val (.pointer none)::vwr nsr::vwr a::vwr b::vwr nsr::vwr nsr::.slw 1::vwi nr::.bool false::vqs 26 [])) [some ⟨23,1,.ints .u64 [1]⟩] neg a b b_1 b_2 a b))))):=by kernel_rfl
theorem anT (neg:Bool) (a b:LI) (b_1 b_2:Bool) (c_:KV):aQ (N5 N at8 asq asG asJ auF au5) 1 (HV N at8 asq asG asJ auF au5) ((cds Pg 190).drop 0) 0 (st0 Pg 190 (DN.args [.bool neg,.ints a,.ints b,.bool b_1,.bool b_2]) [⟨210,1,.cells [.bool b_1,.nil,.bool b_2,.nil]⟩]) (kB false Pg 190 1 c_)=Km N at8 asq asG asJ auF au5 neg a b b_1 b_2 (λr0 r1 r2 r3=>c_ (.ptr 0 0) [⟨210,1,.cells [.bool r0,vwr r1,.bool r2,vwr r3]⟩]):=by rw[cY 0 4 4 rfl];refine(anw N at8 asq asG asJ auF au5 neg a b b_1 b_2 c_ _).trans ?_;simp only[anJ];kernel_rfl
theorem am0 (neg:Bool) (a b:LI) (b_1 b_2:Bool) (c_:KV):qw false (N5 N at8 asq asG asJ auF au5) (HV N at8 asq asG asJ auF au5) 190 (DN.args [.bool neg,.ints a,.ints b,.bool b_1,.bool b_2]) [⟨210,1,.cells [.bool b_1,.nil,.bool b_2,.nil]⟩] c_=Km N at8 asq asG asJ auF au5 neg a b b_1 b_2 (λr0 r1 r2 r3=>c_ (.ptr 0 0) [⟨210,1,.cells [.bool r0,vwr r1,.bool r2,vwr r3]⟩]):=
 (iC (by kernel_rfl)).trans (anT N at8 asq asG asJ auF au5 neg a b b_1 b_2 c_)
theorem abX (aAG:ab Pg 208 (P2 at8)) (aAy:ab Pg 209 (Lu asq)) (aBK:ab Pg 210 (M5 asG)) (ax3:ab Pg 187 (GD asJ)) (aBM:ab Pg 185 (Wd auF)) (aCw:ab Pg 185 (YJ au5)):ab Pg 190 (XW (Km N at8 asq asG asJ auF au5)):=by
 refine aT (md:=false) (cx:=(N5 N at8 asq asG asJ auF au5)) (aD (aa aAG (aa aAy (aa aBK (aa ax3 (aa (mw aBM aCw) (ae _)))))) (by kernel_rfl)) DN (Sj (Km N at8 asq asG asJ auF au5)) (HV N at8 asq asG asJ auF au5) 0 1 (by kernel_rfl) (λi_ hi_=>by omega) ?_;intro a k h;unfold Sj at h;split at h;exact⟨[_],rfl,rfl,(am0 _ _ _ _ _ _ _ _ _ _ _ _ _).trans h⟩;cases h
end
theorem ah0 (N:Nat) (ayd:GQ) (aDj:ab Pg 190 (XW ayd)):ab Pg 156 (YH (ahc N ayd)):=by
 refine gfZ N false (aa aDj (ae _)) 3 ?_;intro a k h;unfold alG at h;split at h;exact⟨[_,_,_],rfl,rfl,.trans (by kernel_rfl) h⟩;cases h
def lO:StSh:=⟨(.any::.roi .u64::.any::.any::.any::.slw 0::.int .i64::.int .u64::.int .u64::sqs 16 (.roi .u64::.int .i64::.int .i64::sqs 4 (.roi .u64::.int .i64::.int .i64::sqs 33 []))),[some (23,1,.ints .u64)]⟩
def CB:StSh:=⟨(.any::.roi .u64::.any::.any::.any::.slw 0::.int .i64::.any::.int .u64::sqs 16 (.roi .u64::.int .i64::.int .i64::sqs 40 [])),[some (23,1,.ints .u64)]⟩
section
variable (N:Nat) (asw:pG) (SQ9:lQ)
noncomputable abbrev N6:Cx:=⟨Pg,ao [(211,(JW asw)),(207,(FQ9 SQ9))],aB,N⟩
def lH:List Atom->K->Bool:=λa_ κ=>match a_ with
 | [.ints y_2,.int i,.int a,.int carry,.ints aAl,.int aAm,.int aAn,.ints t32,.int t33,.int t34,.ints z_1]=>ah N (o9 N asw SQ9 y_2 i a aAl aAm aAn t32 t33 (λr2 r6=>κ.ext 2 (CB.build [.ints y_2,.int i,.int r2,.ints aAl,.int aAm,.int aAn,.ints r6]))) (carry,t34,z_1)
 | _=>false
def lN:StSh:=⟨(.any::.roi .u64::.any::.any::.any::.slw 0::sqs 19 (.roi .u64::.int .i64::.int .i64::sqs 40 [])),[some (23,1,.ints .u64)]⟩
def CA:StSh:=⟨(sqs 5 (.slw 0::sqs 62 [])),[some (23,1,.ints .u64)]⟩
def lG:List Atom->K->Bool:=λa_ κ=>match a_ with
 | [.ints y_1,.ints t25,.int t26,.int t27,.ints z]=>ah N (o8 N asw SQ9 y_1 t25 t26 (λr0=>κ.ext 0 (CA.build [.ints r0]))) (t27,z)
 | _=>false
def HW:Nat->Option Ann:=λb_=>cond (b_==2) (some ⟨⟨[1,5,6,7,8,25,26,27,32,33,34],[],[],[]⟩,[(2,⟨[1,5,6,8,25,26,27],[],[],[]⟩)],some ⟨[4],[],[],[]⟩,some (ay [(lO,lH N asw SQ9)])⟩) (cond (b_==0) (some ⟨⟨[1,5,25,26,27],[],[],[]⟩,[(0,⟨[5],[],[],[]⟩)],some ⟨[4],[],[],[]⟩,some (ay [(lN,lG N asw SQ9)])⟩) (none))
theorem B_:az (N6 N asw SQ9) 0 (HW N asw SQ9) (lp Pg 192 1) (lO,lH N asw SQ9):=by
 intro a κ h;simp only at h;unfold lH at h;split at h
 ·rename_i y_2 i a carry aAl aAm aAn t32 t33 t34 z_1;exact .trans (aA (λ(v_:Int × Int × LI)=>lO.build [.ints y_2,.int i,.int a,.int v_.1,.ints aAl,.int aAm,.int aAn,.ints t32,.int t33,.int v_.2.1,.ints v_.2.2]) (λv_ K_=>by obtain⟨carry,t34,z_1⟩:=v_; kernel_rfl) N (carry,t34,z_1)) h
 ·cases h
theorem B9:az (N6 N asw SQ9) 0 (HW N asw SQ9) (lp Pg 192 0) (lN,lG N asw SQ9):=by
 intro a κ h;simp only at h;unfold lG at h;split at h
 ·rename_i y_1 t25 t26 t27 z;exact .trans (aA (λ(v_:Int × LI)=>lN.build [.ints y_1,.ints t25,.int t26,.int v_.1,.ints v_.2]) (λv_ K_=>by obtain⟨t27,z⟩:=v_; kernel_rfl) N (t27,z)) h
 ·cases h
theorem IJ:aC (N6 N asw SQ9) 0 (HW N asw SQ9) (lp Pg 192 1):=
 au [(lO,lH N asw SQ9)] (by kernel_rfl) ⟨B_ _ _ _,trivial⟩
theorem II:aC (N6 N asw SQ9) 0 (HW N asw SQ9) (lp Pg 192 0):=
 au [(lN,lG N asw SQ9)] (by kernel_rfl) ⟨B9 _ _ _,trivial⟩
theorem ab5 (aAD:ab Pg 211 (JW asw)) (hQ9:ab Pg 207 (FQ9 SQ9)):ab Pg 192 (Kh (TT N asw SQ9)):=by
 refine aT (md:=false) (cx:=(N6 N asw SQ9)) (aD (aa aAD (aa hQ9 (ae _))) (by kernel_rfl)) VC (Sl (TT N asw SQ9)) (HW N asw SQ9) 2 0 (by kernel_rfl) (iL (II _ _ _) (IJ _ _ _)) ?_;intro a k h;unfold Sl at h;split at h;exact⟨[],rfl,rfl,.trans (by kernel_rfl) h⟩;cases h
end
theorem aiz (N:Nat) (aun:ti) (awt:CU) (azc:ab Pg 192 (Kh aun)) (aBR:ab Pg 185 (YM awt)):ab Pg 158 (agY (amE N aun awt)):=by
 refine gfZ N false (aa azc (aa aBR (ae _))) 2 ?_;intro a k h;unfold alY at h;split at h;exact⟨[_,_],rfl,rfl,.trans (by kernel_rfl) h⟩;cases h
theorem abW (N:Nat):ab Pg 185 (XV (Y4 N)):=by
 refine gfZ N false (ae _) 2 ?_;intro a k h;unfold ae_ at h;split at h;exact⟨[_,_],rfl,rfl,.trans (by kernel_rfl) h⟩;cases h
theorem ab1 (N:Nat) (auF:yv) (ayc:GP) (aBM:ab Pg 185 (Wd auF)) (aDi:ab Pg 185 (XV ayc)):ab Pg 191 (XY (Y7 N auF ayc)):=by
 refine gfZ N false (aa (mw (sh:=Mu) aBM aDi) (ae _)) 2 ?_;intro a k h;unfold afd at h;split at h;exact⟨[_,_],rfl,rfl,.trans (by kernel_rfl) h⟩;cases h
theorem ain (N:Nat) (asJ:mQ) (ayf:GS) (ax3:ab Pg 187 (GD asJ)) (aDn:ab Pg 191 (XY ayf)):ab Pg 157 (agT (amx N asJ ayf)):=by
 refine gfZ N false (aa ax3 (aa aDn (ae _))) 2 ?_;intro a k h;unfold alQ at h;split at h;exact⟨[_,_],rfl,rfl,.trans (by kernel_rfl) h⟩;cases h
end Go.Proofs.YteifemaagdeomaaGreatDoor
