/- The program's functions and their ties. Conditions: none. -/
import Derived.Test.YteifemaagdeomaaGreatDoorGs
set_option linter.defProp false
set_option linter.unusedVariables false
namespace Go.Proofs.YteifemaagdeomaaGreatDoor
open Go Go.Mach Go.Proofs
set_option maxRecDepth 50000
def RP (N:Nat):ab Pg 104 (C_ (GR N)):=by
 refine gfV N (ae _) 0 ?_;intro a k h;unfold Qy at h;split at h;exact⟨[],rfl,rfl,.trans (by kernel_rfl) h⟩;cases h
def adB (N:Nat):ab Pg 135 (Um (alt N)):=by
 refine gfV N (ae _) 0 ?_;intro a k h;unfold agv at h;split at h;exact⟨[],rfl,rfl,.trans (by kernel_rfl) h⟩;cases h
def acY (N:Nat):ab Pg 136 (T4 (als N)):=by
 refine gfV N (ae _) 0 ?_;intro a k h;unfold afU at h;split at h;exact⟨[],rfl,rfl,.trans (by kernel_rfl) h⟩;cases h
def acX (N:Nat) (ax2:Cc) (ax0:Cc) (aCW:ab Pg 135 (Um ax2)) (aCP:ab Pg 136 (T4 ax0)):ab Pg 119 (YG (ZX N ax2 ax0)):=by
 refine gfV N (aa aCW (aa aCP (ae _))) 0 ?_;intro a k h;unfold afT at h;split at h;exact⟨[],rfl,rfl,.trans (by kernel_rfl) h⟩;cases h
def acF (N:Nat):ab Pg 137 (KQ (alr N)):=by
 refine gfV N (ae _) 0 ?_;intro a k h;unfold afE at h;split at h;exact⟨[],rfl,rfl,.trans (by kernel_rfl) h⟩;cases h
def adI (N:Nat) (ax0:Cc) (avD:Cc) (aCP:ab Pg 136 (T4 ax0)) (aBh:ab Pg 137 (KQ avD)):ab Pg 120 (Y4 (aax N ax0 avD)):=by
 refine gfV N (aa aCP (aa aBh (ae _))) 0 ?_;intro a k h;unfold agC at h;split at h;exact⟨[],rfl,rfl,.trans (by kernel_rfl) h⟩;cases h
def ab9 (N:Nat) (azN:HA) (az9:Cc) (aEU:ab Pg 119 (YG azN)) (aFv:ab Pg 120 (Y4 az9)):ab Pg 103 (TM (Zn N azN az9)):=by
 refine gfV N (aa aEU (aa aFv (ae _))) 0 ?_;intro a k h;unfold afe at h;split at h;exact⟨[],rfl,rfl,.trans (by kernel_rfl) h⟩;cases h
def aiJ (N:Nat) (axF:BP) (ax2:Cc) (avD:Cc) (aCF:ab Pg 103 (TM axF)) (aCW:ab Pg 135 (Um ax2)) (aBh:ab Pg 137 (KQ avD)):ab Pg 130 (Zc (an1 N axF ax2 avD)):=by
 refine gfV N (aa aCF (aa aCW (aa aBh (ae _)))) 0 ?_;intro a k h;unfold amT at h;split at h;exact⟨[],rfl,rfl,.trans (by kernel_rfl) h⟩;cases h
def aiI (N:Nat) (awJ:Dk) (aDL:ab Pg 130 (Zc awJ)):ab Pg 114 (Zb (an0 N awJ)):=by
 refine gfV N (aa aDL (ae _)) 0 ?_;intro a k h;unfold amS at h;split at h;exact⟨[],rfl,rfl,.trans (by kernel_rfl) h⟩;cases h
def adF (N:Nat) (aw0:xm) (av3:oq) (awI:BP) (aBk:ab Pg 40 (Ud aw0)) (ayZ:ab Pg 104 (C_ av3)) (aDK:ab Pg 114 (Zb awI)):ab Pg 99 (Un (aau N aw0 av3 awI)):=by
 refine gfV N (aa aBk (aa ayZ (aa aDK (ae _)))) 0 ?_;intro a k h;unfold agz at h;split at h;exact⟨[],rfl,rfl,.trans (by kernel_rfl) h⟩;cases h
def adG (N:Nat) (aw0:xm) (av3:oq) (axF:BP) (aBk:ab Pg 40 (Ud aw0)) (ayZ:ab Pg 104 (C_ av3)) (aCF:ab Pg 103 (TM axF)):ab Pg 88 (Uo (aav N aw0 av3 axF)):=by
 refine gfV N (aa aBk (aa ayZ (aa aCF (ae _)))) 0 ?_;intro a k h;unfold agA at h;split at h;exact⟨[],rfl,rfl,.trans (by kernel_rfl) h⟩;cases h
def adL (N:Nat) (aw0:xm) (awE:zc) (aBk:ab Pg 40 (Ud aw0)) (aCV:ab Pg 36 (NX awE)):ab Pg 105 (Up (aaA N aw0 awE)):=by
 refine gfV N (aa aBk (aa aCV (ae _))) 0 ?_;intro a k h;unfold agF at h;split at h;exact⟨[],rfl,rfl,.trans (by kernel_rfl) h⟩;cases h
def ge:StSh:=⟨(.any::.any::.any::.slw 0::.any::.any::.roi .u64::.int .i64::.int .i64::sqs 10 []),[some (33,1,.flts)]⟩
def tn:StSh:=⟨(.any::.any::.any::.slw 0::sqs 15 []),[some (33,1,.flts)]⟩
section
variable (N:Nat) (awE:zc)
def fY:List Atom->K->Bool:=λa_ κ=>match a_ with
 | [.ints awO,.int aAD,.int aAH,.fls x]=>ah N (qI N awE awO aAD (λr0=>κ.ext 0 (tn.build [.fls r0]))) (aAH,x)
 | _=>false
def Q5:Nat->Option Ann:=λb_=>cond (b_==0) (some ⟨⟨[3,6,7,8],[(3,none,66)],[],[]⟩,[(0,⟨[3],[],[],[]⟩)],some ⟨[2],[],[],[]⟩,some (aA [(ge,fY N awE)])⟩) (none)
def sO:ax ⟨Pg,ak [(36,(NX awE))],av,N⟩ 0 (Q5 N awE) (lp Pg 9 0) (ge,fY N awE):=by
 intro a κ h;simp only at h;unfold fY at h;split at h
 ·rename_i awO aAD aAH x;exact .trans (az (λ(v_:Int × LF)=>ge.build [.ints awO,.int aAD,.int v_.1,.fls v_.2]) (λv_ K_=>by obtain⟨aAH,x⟩:=v_; kernel_rfl) N (aAH,x)) h
 ·cases h
def wT:aC ⟨Pg,ak [(36,(NX awE))],av,N⟩ 0 (Q5 N awE) (lp Pg 9 0):=
 ar [(ge,fY N awE)] (by kernel_rfl) ⟨sO _ _,trivial⟩
def abZ (aCV:ab Pg 36 (NX awE)):ab Pg 9 (NN (Zf N awE)):=by
 refine glV N (Q5 N awE) (aa aCV (ae _)) 1 0 (aG (wT _ _)) ?_;intro a k h;unfold ae6 at h;split at h;exact⟨[],rfl,rfl,.trans (by kernel_rfl) h⟩;cases h
end
def aoL (N:Nat) (awx:xi) (aCD:ab Pg 9 (NN awx)):ab Pg 8 (FQ4 (GQ4 N awx)):=by
 refine gfV N (aa aCD (ae _)) 0 ?_;intro a k h;unfold as2 at h;split at h;exact⟨[],rfl,rfl,.trans (by kernel_rfl) h⟩;cases h
def adj (N:Nat):ab Pg 98 (YO (aac N)):=by
 refine gfV N (ae _) 0 ?_;intro a k h;unfold agb at h;split at h;exact⟨[],rfl,rfl,.trans (by kernel_rfl) h⟩;cases h
def iH:StSh:=⟨(sqs 6 (.rof::.int .i64::.int .i64::sqs 12 [])),[]⟩
def xb:StSh:=⟨(.any::.any::.bool::sqs 18 []),[]⟩
def xe:StSh:=⟨(sqs 21 []),[]⟩
section
variable (N:Nat) (aw1:EM)
def iD:List Atom->K->Bool:=λa_ κ=>match a_ with
 | [.fls t6,.int t7,.int t8]=>ah N (o6 N aw1 t6 t7 (λr0=>κ.ret (xb.build [.bool r0])) (κ.ext 0 (xe.build []))) t8
 | _=>false
def aaO:Nat->Option Ann:=λb_=>cond (b_==0) (some ⟨⟨[6,7,8],[],[],[]⟩,[(0,⟨[],[],[],[]⟩)],some ⟨[2],[],[],[]⟩,some (aA [(iH,iD N aw1)])⟩) (none)
def wJ:ax ⟨Pg,ak [(99,(NW aw1))],av,N⟩ 0 (aaO N aw1) (lp Pg 72 0) (iH,iD N aw1):=by
 intro a κ h;simp only at h;unfold iD at h;split at h
 ·rename_i t6 t7 t8;exact .trans (az (λv_=>iH.build [.fls t6,.int t7,.int v_]) (λv_ K_=>by kernel_rfl) N t8) h
 ·cases h
def Bb:aC ⟨Pg,ak [(99,(NW aw1))],av,N⟩ 0 (aaO N aw1) (lp Pg 72 0):=
 ar [(iH,iD N aw1)] (by kernel_rfl) ⟨wJ _ _,trivial⟩
def aic (aFk:ab Pg 99 (NW aw1)):ab Pg 72 (WD (anB N aw1)):=by
 refine glV N (aaO N aw1) (aa aFk (ae _)) 1 0 (aG (Bb _ _)) ?_;intro a k h;unfold amq at h;split at h;exact⟨[],rfl,rfl,.trans (by kernel_rfl) h⟩;cases h
end
def aid (N:Nat) (ayT:HK) (ay_:H_) (aFa:ab Pg 98 (YO ayT)) (aDG:ab Pg 72 (WD ay_)):ab Pg 71 (N0 (anC N ayT ay_)):=by
 refine gfV N (aa aFa (aa aDG (ae _))) 0 ?_;intro a k h;unfold amr at h;split at h;exact⟨[],rfl,rfl,.trans (by kernel_rfl) h⟩;cases h
def acj (N:Nat):ab Pg 89 (TP (Zu N)):=by
 refine gfV N (ae _) 0 ?_;intro a k h;unfold afn at h;split at h;exact⟨[],rfl,rfl,.trans (by kernel_rfl) h⟩;cases h
def gX:StSh:=⟨(.any::.ptr 0 0::.any::.int .i64::sqs 12 (.int .i64::.int .i64::.any::.any::.int .i64::.int .i64::sqs 14 [])),[some (28,1,.cells [.int .i64,.int .i64,.rof])]⟩
def vb:StSh:=⟨(.any::.any::.bool::sqs 33 []),[]⟩
def vg:StSh:=⟨(.any::.ptr 0 0::sqs 14 (.int .i64::.int .i64::sqs 18 [])),[some (28,1,.cells [.int .i64,.int .i64,.rof])]⟩
section
variable (N:Nat) (avF:wh) (awa:EC) (awh:EL)
noncomputable abbrev UL:Cx:=⟨Pg,ak [(71,(N0 avF)),(89,(TP awa)),(88,(Uj awh))],av,N⟩
def gS:List Atom->K->Bool:=λa_ κ=>match a_ with
 | [.int i,.int ayu,.int ayv,.int t20,.int t21,.int m_5,.int m_6,.fls m_7]=>ah N (Nz N avF awa awh i ayu ayv t20 m_5 m_6 m_7 (λr0=>κ.ret (vb.build [.bool r0])) (κ.ext 2 (vg.build [.int ayu,.int ayv,.int m_5,.int m_6,.fls m_7]))) t21
 | _=>false
def gW:StSh:=⟨(.any::.ptr 0 0::sqs 14 (.int .i64::.int .i64::sqs 18 [])),[some (28,1,.cells [.int .i64,.int .i64,.rof])]⟩
def va:StSh:=⟨(.any::.any::.bool::sqs 33 []),[]⟩
def vc:StSh:=⟨(sqs 36 []),[]⟩
def gR:List Atom->K->Bool:=λa_ κ=>match a_ with
 | [.int t16,.int t17,.int m,.int m_3,.fls m_4]=>ah N (Ny N avF awa awh t16 m m_3 m_4 (λr0=>κ.ret (va.build [.bool r0])) (κ.ext 0 (vc.build []))) t17
 | _=>false
def Or:Nat->Option Ann:=λb_=>cond (b_==2) (some ⟨⟨[1,3,16,17,20,21],[],[],[]⟩,[(2,⟨[1,16,17],[],[],[]⟩)],some ⟨[2],[],[],[]⟩,some (aA [(gX,gS N avF awa awh)])⟩) (cond (b_==0) (some ⟨⟨[1,16,17],[],[],[]⟩,[(0,⟨[],[],[],[]⟩)],some ⟨[2],[],[],[]⟩,some (aA [(gW,gR N avF awa awh)])⟩) (none))
def uR:ax (UL N avF awa awh) 0 (Or N avF awa awh) (lp Pg 58 1) (gX,gS N avF awa awh):=by
 intro a κ h;simp only at h;unfold gS at h;split at h
 ·rename_i i ayu ayv t20 t21 m_5 m_6 m_7;exact .trans (az (λv_=>gX.build [.int i,.int ayu,.int ayv,.int t20,.int v_,.int m_5,.int m_6,.fls m_7]) (λv_ K_=>by kernel_rfl) N t21) h
 ·cases h
def uQ:ax (UL N avF awa awh) 0 (Or N avF awa awh) (lp Pg 58 0) (gW,gR N avF awa awh):=by
 intro a κ h;simp only at h;unfold gR at h;split at h
 ·rename_i t16 t17 m m_3 m_4;exact .trans (az (λv_=>gW.build [.int t16,.int v_,.int m,.int m_3,.fls m_4]) (λv_ K_=>by kernel_rfl) N t17) h
 ·cases h
def yO:aC (UL N avF awa awh) 0 (Or N avF awa awh) (lp Pg 58 1):=
 ar [(gX,gS N avF awa awh)] (by kernel_rfl) ⟨uR _ _ _ _,trivial⟩
def yN:aC (UL N avF awa awh) 0 (Or N avF awa awh) (lp Pg 58 0):=
 ar [(gW,gR N avF awa awh)] (by kernel_rfl) ⟨uQ _ _ _ _,trivial⟩
def aiC (aBK:ab Pg 71 (N0 avF)) (aEq:ab Pg 89 (TP awa)) (aFh:ab Pg 88 (Uj awh)):ab Pg 58 (Y_ (anW N avF awa awh)):=by
 refine glV N (Or N avF awa awh) (aa aBK (aa aEq (aa aFh (ae _)))) 2 0 (gJ (yN _ _ _ _) (yO _ _ _ _)) ?_;intro a k h;unfold amM at h;split at h;exact⟨[],rfl,rfl,.trans (by kernel_rfl) h⟩;cases h
end
def zC (N:Nat):ab Pg 131 (cY (vh N)):=by
 refine gfV N (ae _) 0 ?_;intro a k h;unfold uD at h;split at h;exact⟨[],rfl,rfl,.trans (by kernel_rfl) h⟩;cases h
def aaT (N:Nat):Nat->Option Ann:=λb_=>none
def aqW (N:Nat) (x:Int) (c_:KV):ov ⟨Pg,ak [],av,N⟩ (aaT N) 206 (Nd.args [.int x]) [] c_=aaD N x (λr0=>c_ (vwi r0) []):=by
 have key:∀ L_:Int,aU ⟨Pg,ak [],av,N⟩ 0 (aaT N) (((cds Pg 206).drop 0).map (QA 285870213051353865 L_)) 0 (st0 Pg 206 (Nd.args [.int x]) []) (Cu Pg 206 0 c_)=(λ(k0:Kz1)=>cond (x==0) (k0 64) (inR (Int.fdiv (IntKind.wrap .u64 ((aF .and .u64 x (IntKind.wrap .u64 (0 - x)))*L_)) (2 ^ 58)) 64&&(aj .i64 (Gl.getD (Int.toNat (Int.fdiv (IntKind.wrap .u64 ((aF .and .u64 x (IntKind.wrap .u64 (0 - x)))*L_)) (2 ^ 58))) 0)&&k0 (Gl.getD (Int.toNat (Int.fdiv (IntKind.wrap .u64 ((aF .and .u64 x (IntKind.wrap .u64 (0 - x)))*L_)) (2 ^ 58))) 0)))) (λr0=>c_ (vwi r0) []):=λL_=>by kernel_rfl
 have hc:(cds Pg 206).drop 0=((cds Pg 206).drop 0).map (QA 285870213051353865 285870213051353865):=by kernel_rfl
 refine(qL (by kernel_rfl)).trans ?_;rw[hc];exact key 285870213051353865
def ais (N:Nat):ab Pg 206 (ag5 (aaD N)):=by
 refine jN (cx:=⟨Pg,ak [],av,N⟩) (gT (ae _) (by kernel_rfl)) Nd (agL (aaD N)) (aaT N) 0 0 (by kernel_rfl) (λi_ hi_=>by omega) ?_;intro a k h;unfold agL at h;split at h;exact⟨[],rfl,rfl,(aqW _ _ _).trans h⟩;cases h
section
variable (N:Nat) (awJ:Dk) (awI:BP) (avD:Cc) (aw4:Ib)
noncomputable abbrev OT:Cx:=⟨Pg,ak [(130,(Zc awJ)),(114,(Zb awI)),(137,(KQ avD)),(206,(ag5 aw4))],av,N⟩
def Iu (N:Nat) (awJ:Dk) (awI:BP) (avD:Cc) (aw4:Ib):Nat->Option Ann:=λb_=>none
def Sq (d_:List V) (u_:List (Option Blk)) (b f_0 f_1 f_2:Int) (p:Bool) (p_1 p_2:Int):St:=⟨(dqs d_ 0 4 (.ptr 1 0::dqs d_ 4 4 (.ptr 2 0::dqs d_ 8 52 []))),[(u_.getD 0 none),some ⟨198,1,.cells [.bool false,vwu 0,vwi 0]⟩,some ⟨198,1,.cells [.bool p,vwu p_1,vwi p_2]⟩]⟩
def ao4 (d_:List V) (u_:List (Option Blk)) (b f_0 f_1 f_2:Int) (p:Bool) (p_1 p_2:Int) (c_:KV):aU (OT N awJ awI avD aw4) 0 (Iu N awJ awI avD aw4) ((cds Pg 184).drop 5) 0 (Sq d_ u_ b f_0 f_1 f_2 p p_1 p_2) (Cu Pg 184 0 c_)=Ha N awJ awI avD aw4 b f_0 f_1 f_2 p p_1 p_2 (λr0 r1 r2 r3=>c_ (.tup [.agg [.bool r0,vwu r1,vwi r2],vwi r3]) []):=by kernel_rfl
def yH (b f_0 f_1 f_2:Int) (c_:KV) (κn_:St->Bool):aU (OT N awJ awI avD aw4) 0 (Iu N awJ awI avD aw4) (sg Pg 184 0 5) 0 (st0 Pg 184 (Ef.args [.int b,.int f_0,.int f_1,.int f_2]) []) { (Cu Pg 184 0 c_)with nrm:=κn_ } = (awJ b f_0 f_1 f_2 (λcr nr aur=>aj .i64 (nr - f_2)&&awI b f_0 f_1 f_2 (λaut=>cond (aut==1) (c_ (.tup [.agg [.bool false,vwu 0,vwi 0],vwi 4]) []) (cond (aut==2) (c_ (.tup [.agg [.bool false,vwu 0,vwi 0],vwi 4]) []) (cond (aut==3) (c_ (.tup [.agg [.bool cr,vwu 0,vwi 0],vwi 0]) []) (cond (aut==4) (aj .i64 ((nr - f_2)+1)&&κn_ (Sq (vwu b::.agg [vwu f_0,vwi f_1,vwi f_2]::.any::.ptr 0 0::vwi 0::.bool cr::vwi nr::vwu aur::.any::.tup [.bool cr,vwi nr,vwu aur]::vwu b::.agg [vwu f_0,vwi f_1,vwi f_2]::.tup [.bool cr,vwi nr,vwu aur]::.bool cr::vwi nr::vwu aur::.bool cr::vwu aur::vwi nr::.ptr 0 2::vwi f_2::vwi (nr - f_2)::.agg [.bool cr,vwu aur,vwi (nr - f_2)]::vwu b::.agg [vwu f_0,vwi f_1,vwi f_2]::vwi aut::vqs 6 (.bool false::.bool (aut==1)::.bool (aut==2)::.any::.bool false::.bool (aut==3)::.any::.any::.bool true::.bool (aut==4)::.ptr 2 2::vwi (nr - f_2)::vwi ((nr - f_2)+1)::.ptr 2 2::vqs 14 [])) [some ⟨143,1,.cells [vwu f_0,vwi f_1,vwi f_2]⟩] b f_0 f_1 f_2 cr aur ((nr - f_2)+1))) (avD f_0 f_1 f_2 (λavw=>κn_ (Sq (vwu b::.agg [vwu f_0,vwi f_1,vwi f_2]::.any::.ptr 0 0::vwi 0::.bool cr::vwi nr::vwu aur::.any::.tup [.bool cr,vwi nr,vwu aur]::vwu b::.agg [vwu f_0,vwi f_1,vwi f_2]::.tup [.bool cr,vwi nr,vwu aur]::.bool cr::vwi nr::vwu aur::.bool cr::vwu aur::vwi nr::.ptr 0 2::vwi f_2::vwi (nr - f_2)::.agg [.bool cr,vwu aur,vwi (nr - f_2)]::vwu b::.agg [vwu f_0,vwi f_1,vwi f_2]::vwi aut::.ptr 2 1::vwu aur::.agg [vwu f_0,vwi f_1,vwi f_2]::vwu avw::vwu (aF .or .u64 aur avw)::.ptr 2 1::.bool false::.bool (aut==1)::.bool (aut==2)::.any::.bool false::.bool (aut==3)::.any::.any::.bool false::.bool (aut==4)::vqs 18 []) [some ⟨143,1,.cells [vwu f_0,vwi f_1,vwi f_2]⟩] b f_0 f_1 f_2 cr (aF .or .u64 aur avw) (nr - f_2)))))))))):=by kernel_rfl
def yP (b f_0 f_1 f_2:Int) (c_:KV):aU (OT N awJ awI avD aw4) 0 (Iu N awJ awI avD aw4) ((cds Pg 184).drop 0) 0 (st0 Pg 184 (Ef.args [.int b,.int f_0,.int f_1,.int f_2]) []) (Cu Pg 184 0 c_)=KW N awJ awI avD aw4 b f_0 f_1 f_2 (λr0 r1 r2 r3=>c_ (.tup [.agg [.bool r0,vwu r1,vwi r2],vwi r3]) []):=by rw[dC 0 5 5 rfl];refine(yH N awJ awI avD aw4 b f_0 f_1 f_2 c_ _).trans ?_;simp only[ao4];kernel_rfl
def aoq (b f_0 f_1 f_2:Int) (c_:KV):ov (OT N awJ awI avD aw4) (Iu N awJ awI avD aw4) 184 (Ef.args [.int b,.int f_0,.int f_1,.int f_2]) [] c_=KW N awJ awI avD aw4 b f_0 f_1 f_2 (λr0 r1 r2 r3=>c_ (.tup [.agg [.bool r0,vwu r1,vwi r2],vwi r3]) []):=
 (qL (by kernel_rfl)).trans (yP N awJ awI avD aw4 b f_0 f_1 f_2 c_)
def acy (aDL:ab Pg 130 (Zc awJ)) (aDK:ab Pg 114 (Zb awI)) (aBh:ab Pg 137 (KQ avD)) (aF8:ab Pg 206 (ag5 aw4)):ab Pg 184 (Yv (KW N awJ awI avD aw4)):=by
 refine jN (cx:=(OT N awJ awI avD aw4)) (gT (aa aDL (aa aDK (aa aBh (aa aF8 (ae _))))) (by kernel_rfl)) Ef (Tq (KW N awJ awI avD aw4)) (Iu N awJ awI avD aw4) 0 0 (by kernel_rfl) (λi_ hi_=>by omega) ?_;intro a k h;unfold Tq at h;split at h;exact⟨[],rfl,rfl,(aoq _ _ _ _ _ _ _ _ _ _).trans h⟩;cases h
end
def adn (N:Nat) (aw2:EM) (av3:oq) (azC:Hp) (aBl:ab Pg 40 (Ul aw2)) (ayZ:ab Pg 104 (C_ av3)) (aED:ab Pg 184 (Yv azC)):ab Pg 151 (Ug (aag N aw2 av3 azC)):=by
 refine gfV N (aa aBl (aa ayZ (aa aED (ae _)))) 0 ?_;intro a k h;unfold agf at h;split at h;exact⟨[],rfl,rfl,.trans (by kernel_rfl) h⟩;cases h
def kM:StSh:=⟨(.slw 0::.any::.any::.int .i64::sqs 17 []),[some (23,1,.ints .u64)]⟩
def Bi:StSh:=⟨(.slw 0::.any::.any::.int .i64::sqs 17 []),[some (23,1,.ints .u64)]⟩
def kC (N:Nat):List Atom->K->Bool:=λa_ κ=>match a_ with
 | [.int n,.ints x]=>ah N (CY N x (λr0=>κ.ext 0 (Bi.build [.int r0,.ints x]))) n
 | _=>false
def aok (N:Nat):Nat->Option Ann:=λb_=>cond (b_==0) (some ⟨⟨[0,3],[],[],[]⟩,[(0,⟨[0,3],[],[],[]⟩)],some ⟨[2],[],[],[]⟩,some (aA [(kM,kC N)])⟩) (none)
def A7 (N:Nat):ax ⟨Pg,ak [],av,N⟩ 1 (aok N) (lp Pg 207 0) (kM,kC N):=by
 intro a κ h;simp only at h;unfold kC at h;split at h
 ·rename_i n x;exact .trans (az (λv_=>kM.build [.int v_,.ints x]) (λv_ K_=>by kernel_rfl) N n) h
 ·cases h
def Gz (N:Nat):aC ⟨Pg,ak [],av,N⟩ 1 (aok N) (lp Pg 207 0):=
 ar [(kM,kC N)] (by kernel_rfl) ⟨A7 _,trivial⟩
def aoO (N:Nat):ab Pg 207 (FQ9 (GQ9 N)):=by
 refine glZ N false (aok N) (ae _) 1 1 (aG (Gz _)) ?_;intro a k h;unfold as5 at h;split at h;exact⟨[_],rfl,rfl,.trans (by kernel_rfl) h⟩;cases h
def aiA (N:Nat) (SQ9:lP) (hQ9:ab Pg 207 (FQ9 SQ9)):ab Pg 186 (N1 (anV N SQ9)):=by
 refine gfZ N false (aa hQ9 (ae _)) 0 ?_;intro a k h;unfold amL at h;split at h;exact⟨[],rfl,rfl,.trans (by kernel_rfl) h⟩;cases h
def aif (N:Nat):ab Pg 185 (QO (anE N)):=by
 refine gfZ N false (ae _) 1 ?_;intro a k h;unfold amt at h;split at h;exact⟨[_],rfl,rfl,.trans (by kernel_rfl) h⟩;cases h
def aiy (N:Nat) (auJ:sj) (aw3:wi) (aBP:ab Pg 186 (N1 auJ)) (aA8:ab Pg 185 (QO aw3)):ab Pg 152 (ag_ (anT N auJ aw3)):=by
 refine gfZ N false (aa aBP (aa aA8 (ae _))) 1 ?_;intro a k h;unfold amJ at h;split at h;exact⟨[_],rfl,rfl,.trans (by kernel_rfl) h⟩;cases h
def aij (N:Nat):ab Pg 187 (G4 (anG N)):=by
 refine gfZ N false (ae _) 0 ?_;intro a k h;unfold amw at h;split at h;exact⟨[],rfl,rfl,.trans (by kernel_rfl) h⟩;cases h
def aiO (N:Nat):ab Pg 185 (Zd (aqJ N)):=by
 refine gfZ N false (ae _) 1 ?_;intro a k h;unfold amY at h;split at h;exact⟨[_],rfl,rfl,.trans (by kernel_rfl) h⟩;cases h
def aiY (N:Nat) (auR:mY) (ax3:Dl) (azl:ab Pg 187 (G4 auR)) (aC5:ab Pg 185 (Zd ax3)):ab Pg 153 (ahk (aob N auR ax3)):=by
 refine gfZ N false (aa azl (aa aC5 (ae _))) 1 ?_;intro a k h;unfold am8 at h;split at h;exact⟨[_],rfl,rfl,.trans (by kernel_rfl) h⟩;cases h
def acf (N:Nat) (auJ:sj) (aw3:wi) (aBP:ab Pg 186 (N1 auJ)) (aA8:ab Pg 185 (QO aw3)):ab Pg 189 (Ym (Zs N auJ aw3)):=by
 refine gfZ N false (aa aBP (aa aA8 (ae _))) 1 ?_;intro a k h;unfold afk at h;split at h;exact⟨[_],rfl,rfl,.trans (by kernel_rfl) h⟩;cases h
def acN (N:Nat) (azt:Ie) (aEo:ab Pg 189 (Ym azt)):ab Pg 155 (NR (ZO N azt)):=by
 refine gfZ N false (aa aEo (ae _)) 0 ?_;intro a k h;unfold afL at h;split at h;exact⟨[],rfl,rfl,.trans (by kernel_rfl) h⟩;cases h
def mG:StSh:=⟨(sqs 5 (.int .i64::.int .u64::.slw 0::sqs 16 (.roi .u64::.int .i64::.int .i64::sqs 28 []))),[some (23,1,.ints .u64)]⟩
def Er:StSh:=⟨(sqs 7 (.slw 0::sqs 47 [])),[some (23,1,.ints .u64)]⟩
section
variable (N:Nat) (SQ9:lP)
def mv:List Atom->K->Bool:=λa_ κ=>match a_ with
 | [.int words,.int rest,.ints t24,.int t25,.int t26,.ints z]=>ah N (C1 N SQ9 words rest t24 t25 (λr0=>κ.ext 0 (Er.build [.ints r0]))) (t26,z)
 | _=>false
def Rn:Nat->Option Ann:=λb_=>cond (b_==0) (some ⟨⟨[5,6,7,24,25,26],[],[],[]⟩,[(0,⟨[7],[],[],[]⟩)],some ⟨[4],[],[],[]⟩,some (aA [(mG,mv N SQ9)])⟩) (none)
def DF:ax ⟨Pg,ak [(207,(FQ9 SQ9))],av,N⟩ 0 (Rn N SQ9) (lp Pg 188 0) (mG,mv N SQ9):=by
 intro a κ h;simp only at h;unfold mv at h;split at h
 ·rename_i words rest t24 t25 t26 z;exact .trans (az (λ(v_:Int × LI)=>mG.build [.int words,.int rest,.ints t24,.int t25,.int v_.1,.ints v_.2]) (λv_ K_=>by obtain⟨t26,z⟩:=v_; kernel_rfl) N (t26,z)) h
 ·cases h
def Kz:aC ⟨Pg,ak [(207,(FQ9 SQ9))],av,N⟩ 0 (Rn N SQ9) (lp Pg 188 0):=
 ar [(mG,mv N SQ9)] (by kernel_rfl) ⟨DF _ _,trivial⟩
def adC (hQ9:ab Pg 207 (FQ9 SQ9)):ab Pg 188 (Y0 (aar N SQ9)):=by
 refine glZ N false (Rn N SQ9) (aa hQ9 (ae _)) 1 0 (aG (Kz _ _)) ?_;intro a k h;unfold agw at h;split at h;exact⟨[],rfl,rfl,.trans (by kernel_rfl) h⟩;cases h
end
def aiU (N:Nat) (az5:HY) (aw3:wi) (aFr:ab Pg 188 (Y0 az5)) (aA8:ab Pg 185 (QO aw3)):ab Pg 154 (ahg (an8 N az5 aw3)):=by
 refine gfZ N false (aa aFr (aa aA8 (ae _))) 2 ?_;intro a k h;unfold am4 at h;split at h;exact⟨[_,_],rfl,rfl,.trans (by kernel_rfl) h⟩;cases h
def jX:StSh:=⟨(.roi .u64::.roi .u64::.any::.any::.any::.int .i64::sqs 35 []),[]⟩
def Ag:StSh:=⟨(sqs 4 (.int .i64::sqs 36 [])),[]⟩
def Am:StSh:=⟨(sqs 41 []),[]⟩
def jO (N:Nat):List Atom->K->Bool:=λa_ κ=>match a_ with
 | [.ints x_1,.ints y_1,.int i]=>ah N (CV N x_1 y_1 (λr0=>κ.ret (Ag.build [.int r0])) (κ.ext 0 (Am.build []))) i
 | _=>false
def aaN (N:Nat):Nat->Option Ann:=λb_=>cond (b_==0) (some ⟨⟨[0,1,5],[],[],[]⟩,[(0,⟨[],[],[],[]⟩)],some ⟨[4],[],[],[]⟩,some (aA [(jX,jO N)])⟩) (none)
def zE (N:Nat):ax ⟨Pg,ak [],av,N⟩ 0 (aaN N) (lp Pg 209 0) (jX,jO N):=by
 intro a κ h;simp only at h;unfold jO at h;split at h
 ·rename_i x_1 y_1 i;exact .trans (az (λv_=>jX.build [.ints x_1,.ints y_1,.int v_]) (λv_ K_=>by kernel_rfl) N i) h
 ·cases h
def E6 (N:Nat):aC ⟨Pg,ak [],av,N⟩ 0 (aaN N) (lp Pg 209 0):=
 ar [(jX,jO N)] (by kernel_rfl) ⟨zE _,trivial⟩
def ah5 (N:Nat):ab Pg 209 (Mh (anv N)):=by
 refine glZ N false (aaN N) (ae _) 1 0 (aG (E6 _)) ?_;intro a k h;unfold amk at h;split at h;exact⟨[],rfl,rfl,.trans (by kernel_rfl) h⟩;cases h
def Ci (N:Nat):Nat->Option Ann:=λb_=>none
def Sv (d_:List V) (u_:List (Option Blk)) (x x_2 n_1:Int):St:=⟨(vwu x_2::(dq d_ 0)::vwi n_1::dqs d_ 1 22 []),[]⟩
def MV (d_:List V) (u_:List (Option Blk)) (x x_1 n:Int):St:=⟨(vwu x_1::(dq d_ 0)::vwi n::dqs d_ 1 22 []),[]⟩
def ao9 (N:Nat) (d_:List V) (u_:List (Option Blk)) (x x_2 n_1:Int) (c_:KV):aU ⟨Pg,ak [],av,N⟩ 0 (Ci N) ((cds Pg 231).drop 5) 0 (Sv d_ u_ x x_2 n_1) (Cu Pg 231 0 c_)=Oa N x x_2 n_1 (λr0=>c_ (vwi r0) []):=by kernel_rfl
def aoS (N:Nat) (d_:List V) (u_:List (Option Blk)) (x x_1 n:Int) (c_:KV) (κn_:St->Bool):aU ⟨Pg,ak [],av,N⟩ 0 (Ci N) (sg Pg 231 3 2) 0 (MV d_ u_ x x_1 n) { (Cu Pg 231 0 c_)with nrm:=κn_ } = (cond (decide (x_1>=65536)) (aj .i64 (n+16)&&κn_ (Sv (dqs d_ 0 5 (vwu x_1::.bool true::vwu x_1::vwu (Int.fdiv x_1 (2 ^ 16))::vwi n::vwi (n+16)::dqs d_ 11 12 [])) [] x (Int.fdiv x_1 (2 ^ 16)) (n+16))) (κn_ (Sv (dqs d_ 0 5 (vwu x_1::.bool false::dqs d_ 7 16 [])) [] x x_1 n))):=by kernel_rfl
def ao6 (N:Nat) (d_:List V) (u_:List (Option Blk)) (x x_1 n:Int) (c_:KV):aU ⟨Pg,ak [],av,N⟩ 0 (Ci N) ((cds Pg 231).drop 3) 0 (MV d_ u_ x x_1 n) (Cu Pg 231 0 c_)=N9 N x x_1 n (λr0=>c_ (vwi r0) []):=by rw[dC 3 2 5 rfl];refine(aoS N d_ u_ x x_1 n c_ _).trans ?_;simp only[ao9];kernel_rfl
def DE (N:Nat) (x:Int) (c_:KV) (κn_:St->Bool):aU ⟨Pg,ak [],av,N⟩ 0 (Ci N) (sg Pg 231 0 3) 0 (st0 Pg 231 (Eg.args [.int x]) []) { (Cu Pg 231 0 c_)with nrm:=κn_ } = (cond (decide (x>=4294967296)) (κn_ (MV (.any::vwu x::.bool true::vwu x::vwu (Int.fdiv x (2 ^ 32))::vqs 18 []) [] x (Int.fdiv x (2 ^ 32)) 32)) (κn_ (MV (.any::vwu x::.bool false::vqs 20 []) [] x x 0))):=by kernel_rfl
def DP (N:Nat) (x:Int) (c_:KV):aU ⟨Pg,ak [],av,N⟩ 0 (Ci N) ((cds Pg 231).drop 0) 0 (st0 Pg 231 (Eg.args [.int x]) []) (Cu Pg 231 0 c_)=KX N x (λr0=>c_ (vwi r0) []):=by rw[dC 0 3 3 rfl];refine(DE N x c_ _).trans ?_;simp only[ao6];kernel_rfl
def aor (N:Nat) (x:Int) (c_:KV):ov ⟨Pg,ak [],av,N⟩ (Ci N) 231 (Eg.args [.int x]) [] c_=KX N x (λr0=>c_ (vwi r0) []):=
 (qL (by kernel_rfl)).trans (DP N x c_)
def acA (N:Nat):ab Pg 231 (TV (KX N)):=by
 refine jN (cx:=⟨Pg,ak [],av,N⟩) (gT (ae _) (by kernel_rfl)) Eg (Ts (KX N)) (Ci N) 0 0 (by kernel_rfl) (λi_ hi_=>by omega) ?_;intro a k h;unfold Ts at h;split at h;exact⟨[],rfl,rfl,(aor _ _ _).trans h⟩;cases h
def ab8 (N:Nat) (axW:Ib) (aCI:ab Pg 231 (TV axW)):ab Pg 218 (TL (Zm N axW)):=by
 refine gfZ N false (aa aCI (ae _)) 0 ?_;intro a k h;unfold afd at h;split at h;exact⟨[],rfl,rfl,.trans (by kernel_rfl) h⟩;cases h
def ab6 (N:Nat):ab Pg 232 (Fz (Zl N)):=by
 refine gfZ N false (ae _) 0 ?_;intro a k h;unfold afb at h;split at h;exact⟨[],rfl,rfl,.trans (by kernel_rfl) h⟩;cases h
def ac2 (N:Nat) (avo:pU) (aAt:ab Pg 232 (Fz avo)):ab Pg 220 (T6 (Z1 N avo)):=by
 refine gfZ N false (aa aAt (ae _)) 0 ?_;intro a k h;unfold afY at h;split at h;exact⟨[],rfl,rfl,.trans (by kernel_rfl) h⟩;cases h
def lL:StSh:=⟨(.int .u64::.int .u64::.any::.any::.ptr 0 0::.ptr 1 0::.int .u64::.int .u64::sqs 49 []),[some (263,1,.cells [.int .u64,.int .u64,.int .u64,.int .u64,.bool]),some (263,1,.cells [.int .u64,.int .u64,.int .u64,.int .u64,.bool])]⟩
def C4:StSh:=⟨(sqs 4 (.ptr 0 0::.ptr 1 0::sqs 51 [])),[some (263,1,.cells [.int .u64,.int .u64,.int .u64,.int .u64,.bool]),some (263,1,.cells [.int .u64,.int .u64,.int .u64,.int .u64,.bool])]⟩
def lF (N:Nat):List Atom->K->Bool:=λa_ κ=>match a_ with
 | [.int x_1,.int y_1,.int u,.int v,.int t4,.int aAk,.int ax7,.int ax8,.bool aDb,.int w,.int w_1,.int w_2,.int w_3,.bool w_4]=>ah N (uF N t4 aAk ax7 ax8 aDb (λr5 r6 r7 r8 r9=>κ.ext 0 (C4.build [.int t4,.int aAk,.int ax7,.int ax8,.bool aDb,.int r5,.int r6,.int r7,.int r8,.bool r9]))) (x_1,y_1,u,v,w,w_1,w_2,w_3,w_4)
 | _=>false
def Ra (N:Nat):Nat->Option Ann:=λb_=>cond (b_==0) (some ⟨⟨[0,1,4,5,6,7],[],[],[]⟩,[(0,⟨[4,5],[],[],[]⟩)],some ⟨[4],[],[],[]⟩,some (aA [(lL,lF N)])⟩) (none)
def CB (N:Nat):ax ⟨Pg,ak [],av,N⟩ 0 (Ra N) (lp Pg 219 0) (lL,lF N):=by
 intro a κ h;simp only at h;unfold lF at h;split at h
 ·rename_i x_1 y_1 u v t4 aAk ax7 ax8 aDb w w_1 w_2 w_3 w_4;exact .trans (az (λ(v_:Int × Int × Int × Int × Int × Int × Int × Int × Bool)=>lL.build [.int v_.1,.int v_.2.1,.int v_.2.2.1,.int v_.2.2.2.1,.int t4,.int aAk,.int ax7,.int ax8,.bool aDb,.int v_.2.2.2.2.1,.int v_.2.2.2.2.2.1,.int v_.2.2.2.2.2.2.1,.int v_.2.2.2.2.2.2.2.1,.bool v_.2.2.2.2.2.2.2.2]) (λv_ K_=>by obtain⟨x_1,y_1,u,v,w,w_1,w_2,w_3,w_4⟩:=v_; kernel_rfl) N (x_1,y_1,u,v,w,w_1,w_2,w_3,w_4)) h
 ·cases h
def Jb (N:Nat):aC ⟨Pg,ak [],av,N⟩ 0 (Ra N) (lp Pg 219 0):=
 ar [(lL,lF N)] (by kernel_rfl) ⟨CB _,trivial⟩
def acm (N:Nat):ab Pg 219 (TR (alq N)):=by
 refine glZ N false (Ra N) (ae _) 1 0 (aG (Jb _)) ?_;intro a k h;unfold afq at h;split at h;exact⟨[],rfl,rfl,.trans (by kernel_rfl) h⟩;cases h
def aiE (N:Nat):ab Pg 227 (QQ (anX N)):=by
 refine gfV N (ae _) 0 ?_;intro a k h;unfold amO at h;split at h;exact⟨[],rfl,rfl,.trans (by kernel_rfl) h⟩;cases h
def aim (N:Nat) (awm:zg) (auB:mX) (aC3:ab Pg 227 (QQ awm)) (aAw:ab Pg 228 (Gn auB)):ab Pg 211 (G5 (anJ N awm auB)):=by
 refine gfZ N false (aa aC3 (aa aAw (ae _))) 0 ?_;intro a k h;unfold amz at h;split at h;exact⟨[],rfl,rfl,.trans (by kernel_rfl) h⟩;cases h
def mI:StSh:=⟨(.roi .u64::.int .u64::.int .u64::sqs 4 (.slw 0::sqs 6 (.roi .u64::.int .i64::.int .i64::sqs 22 []))),[some (23,1,.ints .u64)]⟩
def Et:StSh:=⟨(.roi .u64::.any::.int .u64::sqs 4 (.slw 0::sqs 31 [])),[some (23,1,.ints .u64)]⟩
section
variable (N:Nat) (auL:pL) (SQ9:lP)
def my:List Atom->K->Bool:=λa_ κ=>match a_ with
 | [.ints x_1,.int d_1,.int ayN,.ints t14,.int t15,.int t16,.ints z]=>ah N (qG N auL SQ9 x_1 d_1 t14 t15 (λr1 r2=>κ.ext 0 (Et.build [.ints x_1,.int r1,.ints r2]))) (ayN,t16,z)
 | _=>false
def Rm:Nat->Option Ann:=λb_=>cond (b_==0) (some ⟨⟨[0,1,2,7,14,15,16],[],[],[]⟩,[(0,⟨[0,2,7],[],[],[]⟩)],some ⟨[6],[],[],[]⟩,some (aA [(mI,my N auL SQ9)])⟩) (none)
def DH:ax ⟨Pg,ak [(211,(G5 auL)),(207,(FQ9 SQ9))],av,N⟩ 0 (Rm N auL SQ9) (lp Pg 234 0) (mI,my N auL SQ9):=by
 intro a κ h;simp only at h;unfold my at h;split at h
 ·rename_i x_1 d_1 ayN t14 t15 t16 z;exact .trans (az (λ(v_:Int × Int × LI)=>mI.build [.ints x_1,.int d_1,.int v_.1,.ints t14,.int t15,.int v_.2.1,.ints v_.2.2]) (λv_ K_=>by obtain⟨ayN,t16,z⟩:=v_; kernel_rfl) N (ayN,t16,z)) h
 ·cases h
def KB:aC ⟨Pg,ak [(211,(G5 auL)),(207,(FQ9 SQ9))],av,N⟩ 0 (Rm N auL SQ9) (lp Pg 234 0):=
 ar [(mI,my N auL SQ9)] (by kernel_rfl) ⟨DH _ _ _,trivial⟩
def ady (aBM:ab Pg 211 (G5 auL)) (hQ9:ab Pg 207 (FQ9 SQ9)):ab Pg 234 (YX (aao N auL SQ9)):=by
 refine glZ N false (Rm N auL SQ9) (aa aBM (aa hQ9 (ae _))) 1 0 (aG (KB _ _ _)) ?_;intro a k h;unfold agq at h;split at h;exact⟨[],rfl,rfl,.trans (by kernel_rfl) h⟩;cases h
def mH:StSh:=⟨(.roi .u64::.roi .u64::.any::.any::.any::.slw 0::.int .u64::sqs 5 (.int .i64::.int .i64::sqs 20 [])),[some (23,1,.ints .u64)]⟩
def Es:StSh:=⟨(sqs 5 (.slw 0::sqs 28 [])),[some (23,1,.ints .u64)]⟩
end
section
variable (N:Nat) (avo:pU) (au0:mX) (SQ9:lP)
noncomputable abbrev alw:Cx:=⟨Pg,ak [(232,(Fz avo)),(237,(QM au0)),(207,(FQ9 SQ9))],av,N⟩
def mw:List Atom->K->Bool:=λa_ κ=>match a_ with
 | [.ints x_1,.ints y_1,.int borrow,.int t12,.int t13,.ints z]=>ah N (qF N avo au0 SQ9 x_1 y_1 t12 (λr0=>κ.ext 0 (Es.build [.ints r0]))) (borrow,t13,z)
 | _=>false
def Rk:Nat->Option Ann:=λb_=>cond (b_==0) (some ⟨⟨[0,1,5,6,12,13],[],[],[]⟩,[(0,⟨[5],[],[],[]⟩)],some ⟨[4],[],[],[]⟩,some (aA [(mH,mw N avo au0 SQ9)])⟩) (none)
def DG:ax (alw N avo au0 SQ9) 0 (Rk N avo au0 SQ9) (lp Pg 233 0) (mH,mw N avo au0 SQ9):=by
 intro a κ h;simp only at h;unfold mw at h;split at h
 ·rename_i x_1 y_1 borrow t12 t13 z;exact .trans (az (λ(v_:Int × Int × LI)=>mH.build [.ints x_1,.ints y_1,.int v_.1,.int t12,.int v_.2.1,.ints v_.2.2]) (λv_ K_=>by obtain⟨borrow,t13,z⟩:=v_; kernel_rfl) N (borrow,t13,z)) h
 ·cases h
def KA:aC (alw N avo au0 SQ9) 0 (Rk N avo au0 SQ9) (lp Pg 233 0):=
 ar [(mH,mw N avo au0 SQ9)] (by kernel_rfl) ⟨DG _ _ _ _,trivial⟩
def adl (aAt:ab Pg 232 (Fz avo)) (aCZ:ab Pg 237 (QM au0)) (hQ9:ab Pg 207 (FQ9 SQ9)):ab Pg 233 (Ue (aae N avo au0 SQ9)):=by
 refine glZ N false (Rk N avo au0 SQ9) (aa aAt (aa aCZ (aa hQ9 (ae _)))) 1 0 (aG (KA _ _ _ _)) ?_;intro a k h;unfold age at h;split at h;exact⟨[],rfl,rfl,.trans (by kernel_rfl) h⟩;cases h
end
def wI (N:Nat) (axu:HU) (axj:B8) (aFo:ab Pg 234 (YX axu)) (aCS:ab Pg 233 (Ue axj)):ab Pg 221 (jm (jo N axu axj)):=by
 refine gfZ N false (aa aFo (aa aCS (ae _))) 0 ?_;intro a k h;unfold pQ at h;split at h;exact⟨[],rfl,rfl,.trans (by kernel_rfl) h⟩;cases h
def ahT (N:Nat) (axW:Ib) (aCI:ab Pg 231 (TV axW)):ab Pg 224 (Wz (anj N axW)):=by
 refine gfV N (aa aCI (ae _)) 0 ?_;intro a k h;unfold al8 at h;split at h;exact⟨[],rfl,rfl,.trans (by kernel_rfl) h⟩;cases h
def im:StSh:=⟨(.any::.any::.int .u64::sqs 5 (.int .u64::.int .u64::.int .u64::.int .u64::.any::.int .u64::.int .u64::.int .u64::.int .u64::sqs 118 [])),[]⟩
def wa:StSh:=⟨(.any::.any::.int .u64::sqs 5 (.int .u64::.int .u64::.int .u64::.int .u64::.any::.int .u64::.int .u64::.int .u64::sqs 119 [])),[]⟩
section
variable (N:Nat) (au_:Ib)
noncomputable abbrev UM:Cx:=⟨Pg,ak [(224,(Wz au_))],av,N⟩
def ii:List Atom->K->Bool:=λa_ κ=>match a_ with
 | [.int y_1,.int s,.int yn1,.int yn0,.int un32,.int un1,.int un0,.int q1,.int rhat]=>ah N (Fv N au_ y_1 s yn1 yn0 un32 un1 un0 (λr7=>κ.ext 0 (wa.build [.int y_1,.int s,.int yn1,.int yn0,.int un32,.int un1,.int un0,.int r7]))) (q1,rhat)
 | _=>false
def io:StSh:=⟨(.any::.any::.int .u64::sqs 5 (.int .u64::.int .u64::.int .u64::.any::.any::.any::.int .u64::.int .u64::.int .u64::.int .u64::.int .u64::sqs 116 [])),[]⟩
def wb:StSh:=⟨(.any::.any::.int .u64::sqs 5 (.int .u64::sqs 5 (.int .u64::.int .u64::.any::.int .u64::.int .u64::sqs 116 []))),[]⟩
def ij:List Atom->K->Bool:=λa_ κ=>match a_ with
 | [.int y_2,.int s_1,.int aAd,.int aBE,.int aA0,.int aC_,.int axQ,.int un21,.int q0]=>ah N (Fw N au_ y_2 s_1 aAd aBE aA0 aC_ un21 (λr5=>κ.ext 2 (wb.build [.int y_2,.int s_1,.int aA0,.int aC_,.int un21,.int r5]))) (axQ,q0)
 | _=>false
def Oo:Nat->Option Ann:=λb_=>cond (b_==0) (some ⟨⟨[2,8,9,10,11,13,14,15,16],[],[],[]⟩,[(0,⟨[2,8,9,10,11,13,14,15],[],[],[]⟩)],some ⟨[6,7],[],[],[]⟩,some (aA [(im,ii N au_)])⟩) (cond (b_==2) (some ⟨⟨[2,8,9,10,14,15,16,17,18],[],[],[]⟩,[(2,⟨[2,8,14,15,17,18],[],[],[]⟩)],some ⟨[6,7],[],[],[]⟩,some (aA [(io,ij N au_)])⟩) (none))
def vK:ax (UM N au_) 0 (Oo N au_) (lp Pg 235 0) (im,ii N au_):=by
 intro a κ h;simp only at h;unfold ii at h;split at h
 ·rename_i y_1 s yn1 yn0 un32 un1 un0 q1 rhat;exact .trans (az (λ(v_:Int × Int)=>im.build [.int y_1,.int s,.int yn1,.int yn0,.int un32,.int un1,.int un0,.int v_.1,.int v_.2]) (λv_ K_=>by obtain⟨q1,rhat⟩:=v_; kernel_rfl) N (q1,rhat)) h
 ·cases h
def vL:ax (UM N au_) 0 (Oo N au_) (lp Pg 235 1) (io,ij N au_):=by
 intro a κ h;simp only at h;unfold ij at h;split at h
 ·rename_i y_2 s_1 aAd aBE aA0 aC_ axQ un21 q0;exact .trans (az (λ(v_:Int × Int)=>io.build [.int y_2,.int s_1,.int aAd,.int aBE,.int aA0,.int aC_,.int v_.1,.int un21,.int v_.2]) (λv_ K_=>by obtain⟨axQ,q0⟩:=v_; kernel_rfl) N (axQ,q0)) h
 ·cases h
def zK:aC (UM N au_) 0 (Oo N au_) (lp Pg 235 0):=
 ar [(im,ii N au_)] (by kernel_rfl) ⟨vK _ _,trivial⟩
def zL:aC (UM N au_) 0 (Oo N au_) (lp Pg 235 1):=
 ar [(io,ij N au_)] (by kernel_rfl) ⟨vL _ _,trivial⟩
def aio (aDB:ab Pg 224 (Wz au_)):ab Pg 235 (Mi (anL N au_)):=by
 refine glV N (Oo N au_) (aa aDB (ae _)) 2 0 (gJ (zK _ _) (zL _ _)) ?_;intro a k h;unfold amB at h;split at h;exact⟨[],rfl,rfl,.trans (by kernel_rfl) h⟩;cases h
def lK:StSh:=⟨(.roi .u64::.int .u64::sqs 4 (.slw 0::.int .u64::.int .i64::sqs 26 [])),[some (23,1,.ints .u64)]⟩
def C3:StSh:=⟨(sqs 6 (.slw 0::.int .u64::sqs 27 [])),[some (23,1,.ints .u64)]⟩
end
section
variable (N:Nat) (avP:mX) (SQ9:lP)
def lE:List Atom->K->Bool:=λa_ κ=>match a_ with
 | [.ints x_1,.int d_1,.int rest,.int i,.ints q]=>ah N (o7 N avP SQ9 x_1 d_1 (λr0 r1=>κ.ext 0 (C3.build [.int r0,.ints r1]))) (rest,i,q)
 | _=>false
def Rb:Nat->Option Ann:=λb_=>cond (b_==0) (some ⟨⟨[0,1,6,7,8],[],[],[]⟩,[(0,⟨[6,7],[],[],[]⟩)],some ⟨[4,5],[],[],[]⟩,some (aA [(lK,lE N avP SQ9)])⟩) (none)
def CA:ax ⟨Pg,ak [(235,(Mi avP)),(207,(FQ9 SQ9))],av,N⟩ 0 (Rb N avP SQ9) (lp Pg 223 0) (lK,lE N avP SQ9):=by
 intro a κ h;simp only at h;unfold lE at h;split at h
 ·rename_i x_1 d_1 rest i q;exact .trans (az (λ(v_:Int × Int × LI)=>lK.build [.ints x_1,.int d_1,.int v_.1,.int v_.2.1,.ints v_.2.2]) (λv_ K_=>by obtain⟨rest,i,q⟩:=v_; kernel_rfl) N (rest,i,q)) h
 ·cases h
def Ja:aC ⟨Pg,ak [(235,(Mi avP)),(207,(FQ9 SQ9))],av,N⟩ 0 (Rb N avP SQ9) (lp Pg 223 0):=
 ar [(lK,lE N avP SQ9)] (by kernel_rfl) ⟨CA _ _ _,trivial⟩
def acz (aC1:ab Pg 235 (Mi avP)) (hQ9:ab Pg 207 (FQ9 SQ9)):ab Pg 223 (TU (ZE N avP SQ9)):=by
 refine glZ N false (Rb N avP SQ9) (aa aC1 (aa hQ9 (ae _))) 1 0 (aG (Ja _ _ _)) ?_;intro a k h;unfold afz at h;split at h;exact⟨[],rfl,rfl,.trans (by kernel_rfl) h⟩;cases h
def ja:StSh:=⟨(sqs 5 (.int .i64::.int .u64::.slw 0::sqs 16 (.roi .u64::.int .i64::.int .i64::sqs 28 []))),[some (23,1,.ints .u64)]⟩
def yk:StSh:=⟨(sqs 7 (.slw 0::sqs 47 [])),[some (23,1,.ints .u64)]⟩
end
section
variable (N:Nat) (SQ9:lP)
def i8:List Atom->K->Bool:=λa_ κ=>match a_ with
 | [.int words,.int rest,.ints t24,.int t25,.int t26,.ints z]=>ah N (uG N SQ9 words rest t24 t25 (λr0=>κ.ext 0 (yk.build [.ints r0]))) (t26,z)
 | _=>false
def aaV:Nat->Option Ann:=λb_=>cond (b_==0) (some ⟨⟨[5,6,7,24,25,26],[],[],[]⟩,[(0,⟨[7],[],[],[]⟩)],some ⟨[4],[],[],[]⟩,some (aA [(ja,i8 N SQ9)])⟩) (none)
def xJ:ax ⟨Pg,ak [(207,(FQ9 SQ9))],av,N⟩ 0 (aaV N SQ9) (lp Pg 188 0) (ja,i8 N SQ9):=by
 intro a κ h;simp only at h;unfold i8 at h;split at h
 ·rename_i words rest t24 t25 t26 z;exact .trans (az (λ(v_:Int × LI)=>ja.build [.int words,.int rest,.ints t24,.int t25,.int v_.1,.ints v_.2]) (λv_ K_=>by obtain⟨t26,z⟩:=v_; kernel_rfl) N (t26,z)) h
 ·cases h
def CF:aC ⟨Pg,ak [(207,(FQ9 SQ9))],av,N⟩ 0 (aaV N SQ9) (lp Pg 188 0):=
 ar [(ja,i8 N SQ9)] (by kernel_rfl) ⟨xJ _ _,trivial⟩
def aiF (hQ9:ab Pg 207 (FQ9 SQ9)):ab Pg 188 (aha (anY N SQ9)):=by
 refine glV N (aaV N SQ9) (aa hQ9 (ae _)) 1 0 (aG (CF _ _)) ?_;intro a k h;unfold amP at h;split at h;exact⟨[],rfl,rfl,.trans (by kernel_rfl) h⟩;cases h
def j4:StSh:=⟨(.sl 0::.roi .u64::.any::.any::.any::.int .i64::.int .u64::.int .u64::sqs 78 []),[some (23,1,.ints .u64)]⟩
def Aj:StSh:=⟨(sqs 4 (.int .u64::sqs 81 [])),[some (23,1,.ints .u64)]⟩
end
section
variable (N:Nat) (avP:mX) (awm:zg) (auB:mX)
noncomputable abbrev alx:Cx:=⟨Pg,ak [(235,(Mi avP)),(227,(QQ awm)),(228,(Gn auB))],av,N⟩
def jR:List Atom->K->Bool:=λa_ κ=>match a_ with
 | [.nat u,.nat u_2,.ints v_1,.int n,.int q,.int rest,.ints u_3]=>ah N (xa N avP awm auB u u_2 v_1 n u_3 (λr0=>κ.ret (Aj.build [.int r0,.ints u_3]))) (q,rest)
 | _=>false
def Q8:Nat->Option Ann:=λb_=>cond (b_==0) (some ⟨⟨[0,1,5,6,7],[],[],[]⟩,[],some ⟨[4],[],[],[]⟩,some (aA [(j4,jR N avP awm auB)])⟩) (none)
def zH:ax (alx N avP awm auB) 1 (Q8 N avP awm auB) (lp Pg 236 0) (j4,jR N avP awm auB):=by
 intro a κ h;simp only at h;unfold jR at h;split at h
 ·rename_i u u_2 v_1 n q rest u_3;exact .trans (az (λ(v_:Int × Int)=>j4.build [.nat u,.nat u_2,.ints v_1,.int n,.int v_.1,.int v_.2,.ints u_3]) (λv_ K_=>by obtain⟨q,rest⟩:=v_; kernel_rfl) N (q,rest)) h
 ·cases h
def E9:aC (alx N avP awm auB) 1 (Q8 N avP awm auB) (lp Pg 236 0):=
 ar [(j4,jR N avP awm auB)] (by kernel_rfl) ⟨zH _ _ _ _,trivial⟩
def ab7 (aC1:ab Pg 235 (Mi avP)) (aC3:ab Pg 227 (QQ awm)) (aAw:ab Pg 228 (Gn auB)):ab Pg 236 (TK (alo N avP awm auB)):=by
 refine glZ N false (Q8 N avP awm auB) (aa aC1 (aa aC3 (aa aAw (ae _)))) 1 1 (aG (E9 _ _ _ _)) ?_;intro a k h;unfold afc at h;split at h;exact⟨[_],rfl,rfl,.trans (by kernel_rfl) h⟩;cases h
def kN:StSh:=⟨(.sl 0::.roi .u64::.any::.any::.any::.int .i64::.int .u64::.int .u64::.int .u64::sqs 8 (.int .i64::.int .i64::sqs 80 [])),[some (23,1,.ints .u64)]⟩
def Bj:StSh:=⟨(.sl 0::.roi .u64::.any::.any::.any::.int .i64::.int .u64::.int .u64::.int .u64::sqs 90 []),[some (23,1,.ints .u64)]⟩
end
section
variable (N:Nat) (avG:BN) (auL:pL) (au0:mX) (auB:mX)
noncomputable abbrev Lj:Cx:=⟨Pg,ak [(236,(TK avG)),(211,(G5 auL)),(237,(QM au0)),(228,(Gn auB))],av,N⟩
def kD:List Atom->K->Bool:=λa_ κ=>match a_ with
 | [.nat u,.nat u_2,.ints v_1,.int n,.int q,.int carry,.int borrow,.int t17,.int t18,.ints u_3]=>ah N (yC N avG auL au0 auB u u_2 v_1 n q t17 (λr5 r6 r7=>κ.ext 0 (Bj.build [.nat u,.nat u_2,.ints v_1,.int n,.int q,.int r5,.int r6,.ints r7]))) (carry,borrow,t18,u_3)
 | _=>false
def kP:StSh:=⟨(.sl 0::.roi .u64::.any::.any::.any::.int .i64::.int .u64::.int .u64::.int .u64::sqs 51 (.int .i64::.int .i64::sqs 37 [])),[some (23,1,.ints .u64)]⟩
def Bm:StSh:=⟨(.sl 0::.roi .u64::.any::.any::.any::.int .i64::.int .u64::.int .u64::.int .u64::sqs 90 []),[some (23,1,.ints .u64)]⟩
def kF:List Atom->K->Bool:=λa_ κ=>match a_ with
 | [.nat u_8,.nat u_9,.ints v_3,.int n_2,.int q_2,.int av4,.int awK,.int t60,.int t61,.ints awR]=>ah N (yE N avG auL au0 auB u_8 u_9 v_3 n_2 q_2 awK t60 (λr5 r7=>κ.ext 4 (Bm.build [.nat u_8,.nat u_9,.ints v_3,.int n_2,.int q_2,.int r5,.int awK,.ints r7]))) (av4,t61,awR)
 | _=>false
def kO:StSh:=⟨(.sl 0::.roi .u64::.any::.any::.any::.int .i64::.int .u64::.any::.int .u64::sqs 90 []),[some (23,1,.ints .u64)]⟩
def Bl:StSh:=⟨(sqs 6 (.int .u64::sqs 92 [])),[some (23,1,.ints .u64)]⟩
def kE:List Atom->K->Bool:=λa_ κ=>match a_ with
 | [.nat u_5,.nat u_6,.ints v_2,.int n_1,.int q_1,.int avS,.ints u_7]=>ah N (yD N avG auL au0 auB u_5 u_6 v_2 n_1 (λr0 r1=>κ.ext 2 (Bl.build [.int r0,.ints r1]))) (q_1,avS,u_7)
 | _=>false
def Cg:Nat->Option Ann:=λb_=>cond (b_==0) (some ⟨⟨[0,1,5,6,7,8,17,18],[],[],[]⟩,[(0,⟨[0,1,5,6,7,8],[],[],[]⟩)],some ⟨[4],[],[],[]⟩,some (aA [(kN,kD N avG auL au0 auB)])⟩) (cond (b_==4) (some ⟨⟨[0,1,5,6,7,8,60,61],[],[],[]⟩,[(4,⟨[0,1,5,6,7,8],[],[],[]⟩)],some ⟨[4],[],[],[]⟩,some (aA [(kP,kF N avG auL au0 auB)])⟩) (cond (b_==2) (some ⟨⟨[0,1,5,6,8],[],[],[]⟩,[(2,⟨[6],[],[],[]⟩)],some ⟨[4],[],[],[]⟩,some (aA [(kO,kE N avG auL au0 auB)])⟩) (none)))
def A8:ax (Lj N avG auL au0 auB) 1 (Cg N avG auL au0 auB) (lp Pg 225 0) (kN,kD N avG auL au0 auB):=by
 intro a κ h;simp only at h;unfold kD at h;split at h
 ·rename_i u u_2 v_1 n q carry borrow t17 t18 u_3;exact .trans (az (λ(v_:Int × Int × Int × LI)=>kN.build [.nat u,.nat u_2,.ints v_1,.int n,.int q,.int v_.1,.int v_.2.1,.int t17,.int v_.2.2.1,.ints v_.2.2.2]) (λv_ K_=>by obtain⟨carry,borrow,t18,u_3⟩:=v_; kernel_rfl) N (carry,borrow,t18,u_3)) h
 ·cases h
def A_:ax (Lj N avG auL au0 auB) 1 (Cg N avG auL au0 auB) (lp Pg 225 2) (kP,kF N avG auL au0 auB):=by
 intro a κ h;simp only at h;unfold kF at h;split at h
 ·rename_i u_8 u_9 v_3 n_2 q_2 av4 awK t60 t61 awR;exact .trans (az (λ(v_:Int × Int × LI)=>kP.build [.nat u_8,.nat u_9,.ints v_3,.int n_2,.int q_2,.int v_.1,.int awK,.int t60,.int v_.2.1,.ints v_.2.2]) (λv_ K_=>by obtain⟨av4,t61,awR⟩:=v_; kernel_rfl) N (av4,t61,awR)) h
 ·cases h
def A9:ax (Lj N avG auL au0 auB) 1 (Cg N avG auL au0 auB) (lp Pg 225 1) (kO,kE N avG auL au0 auB):=by
 intro a κ h;simp only at h;unfold kE at h;split at h
 ·rename_i u_5 u_6 v_2 n_1 q_1 avS u_7;exact .trans (az (λ(v_:Int × Int × LI)=>kO.build [.nat u_5,.nat u_6,.ints v_2,.int n_1,.int v_.1,.int v_.2.1,.ints v_.2.2]) (λv_ K_=>by obtain⟨q_1,avS,u_7⟩:=v_; kernel_rfl) N (q_1,avS,u_7)) h
 ·cases h
def GA:aC (Lj N avG auL au0 auB) 1 (Cg N avG auL au0 auB) (lp Pg 225 0):=
 ar [(kN,kD N avG auL au0 auB)] (by kernel_rfl) ⟨A8 _ _ _ _ _,trivial⟩
def GC:aC (Lj N avG auL au0 auB) 1 (Cg N avG auL au0 auB) (lp Pg 225 2):=
 ar [(kP,kF N avG auL au0 auB)] (by kernel_rfl) ⟨A_ _ _ _ _ _,trivial⟩
def GB:aC (Lj N avG auL au0 auB) 1 (Cg N avG auL au0 auB) (lp Pg 225 1):=
 ar [(kO,kE N avG auL au0 auB)] (by kernel_rfl) ⟨A9 _ _ _ _ _,trivial⟩
def aca (aEj:ab Pg 236 (TK avG)) (aBM:ab Pg 211 (G5 auL)) (aCZ:ab Pg 237 (QM au0)) (aAw:ab Pg 228 (Gn auB)):ab Pg 225 (TN (alp N avG auL au0 auB)):=by
 refine glZ N false (Cg N avG auL au0 auB) (aa aEj (aa aBM (aa aCZ (aa aAw (ae _))))) 3 1 (λi_ hi_=>by
  match i_,hi_ with
  | 0,_=>exact GA _ _ _ _ _
  | 1,_=>exact GB _ _ _ _ _
  | 2,_=>exact GC _ _ _ _ _
  | (q+3),h=>omega) ?_
 intro a k h;unfold afg at h;split at h;exact⟨[_],rfl,rfl,.trans (by kernel_rfl) h⟩;cases h
def i9:StSh:=⟨(.sl 0::.sl 1::.any::.any::.any::.int .i64::.int .u64::.int .u64::sqs 78 []),[some (23,1,.ints .u64),some (23,1,.ints .u64)]⟩
def yj:StSh:=⟨(sqs 4 (.int .u64::sqs 81 [])),[some (23,1,.ints .u64),some (23,1,.ints .u64)]⟩
end
section
variable (N:Nat) (avP:mX) (awm:zg) (auB:mX)
noncomputable abbrev aly:Cx:=⟨Pg,ak [(235,(Mi avP)),(227,(QQ awm)),(228,(Gn auB))],av,N⟩
def i7:List Atom->K->Bool:=λa_ κ=>match a_ with
 | [.nat u,.nat u_2,.nat v,.nat v_2,.int n,.int q,.int rest,.ints u_3,.ints v_3]=>ah N (uE N avP awm auB u u_2 v v_2 n u_3 v_3 (λr0=>κ.ret (yj.build [.int r0,.ints u_3,.ints v_3]))) (q,rest)
 | _=>false
def aaW:Nat->Option Ann:=λb_=>cond (b_==0) (some ⟨⟨[0,1,5,6,7],[],[],[]⟩,[],some ⟨[4],[],[],[]⟩,some (aA [(i9,i7 N avP awm auB)])⟩) (none)
def xI:ax (aly N avP awm auB) 2 (aaW N avP awm auB) (lp Pg 236 0) (i9,i7 N avP awm auB):=by
 intro a κ h;simp only at h;unfold i7 at h;split at h
 ·rename_i u u_2 v v_2 n q rest u_3 v_3;exact .trans (az (λ(v_:Int × Int)=>i9.build [.nat u,.nat u_2,.nat v,.nat v_2,.int n,.int v_.1,.int v_.2,.ints u_3,.ints v_3]) (λv_ K_=>by obtain⟨q,rest⟩:=v_; kernel_rfl) N (q,rest)) h
 ·cases h
def CE:aC (aly N avP awm auB) 2 (aaW N avP awm auB) (lp Pg 236 0):=
 ar [(i9,i7 N avP awm auB)] (by kernel_rfl) ⟨xI _ _ _ _,trivial⟩
def aiH (aC1:ab Pg 235 (Mi avP)) (aC3:ab Pg 227 (QQ awm)) (aAw:ab Pg 228 (Gn auB)):ab Pg 236 (ahc (aht N avP awm auB)):=by
 refine glZ N false (aaW N avP awm auB) (aa aC1 (aa aC3 (aa aAw (ae _)))) 1 2 (aG (CE _ _ _ _)) ?_;intro a k h;unfold amR at h;split at h;exact⟨[_,_],rfl,rfl,.trans (by kernel_rfl) h⟩;cases h
def jy:StSh:=⟨(.sl 0::.sl 1::.any::.any::.any::.int .i64::.int .u64::.int .u64::.int .u64::sqs 8 (.int .i64::.int .i64::sqs 80 [])),[some (23,1,.ints .u64),some (23,1,.ints .u64)]⟩
def yV:StSh:=⟨(.sl 0::.sl 1::.any::.any::.any::.int .i64::.int .u64::.int .u64::.int .u64::sqs 90 []),[some (23,1,.ints .u64),some (23,1,.ints .u64)]⟩
end
section
variable (N:Nat) (awz:FD) (auL:pL) (au0:mX) (auB:mX)
noncomputable abbrev Lk:Cx:=⟨Pg,ak [(236,(ahc awz)),(211,(G5 auL)),(237,(QM au0)),(228,(Gn auB))],av,N⟩
def ju:List Atom->K->Bool:=λa_ κ=>match a_ with
 | [.nat u,.nat u_2,.nat v,.nat v_2,.int n,.int q,.int carry,.int borrow,.int t17,.int t18,.ints u_3,.ints v_3]=>ah N (ND N awz auL au0 auB u u_2 v v_2 n q t17 v_3 (λr6 r7 r8=>κ.ext 0 (yV.build [.nat u,.nat u_2,.nat v,.nat v_2,.int n,.int q,.int r6,.int r7,.ints r8,.ints v_3]))) (carry,borrow,t18,u_3)
 | _=>false
def jA:StSh:=⟨(.sl 0::.sl 1::.any::.any::.any::.int .i64::.int .u64::.int .u64::.int .u64::sqs 51 (.int .i64::.int .i64::sqs 37 [])),[some (23,1,.ints .u64),some (23,1,.ints .u64)]⟩
def yX:StSh:=⟨(.sl 0::.sl 1::.any::.any::.any::.int .i64::.int .u64::.int .u64::.int .u64::sqs 90 []),[some (23,1,.ints .u64),some (23,1,.ints .u64)]⟩
def jw:List Atom->K->Bool:=λa_ κ=>match a_ with
 | [.nat u_8,.nat u_9,.nat v_7,.nat v_8,.int n_2,.int q_2,.int av4,.int awK,.int t60,.int t61,.ints awR,.ints v_9]=>ah N (NE N awz auL au0 auB u_8 u_9 v_7 v_8 n_2 q_2 awK t60 v_9 (λr6 r8=>κ.ext 4 (yX.build [.nat u_8,.nat u_9,.nat v_7,.nat v_8,.int n_2,.int q_2,.int r6,.int awK,.ints r8,.ints v_9]))) (av4,t61,awR)
 | _=>false
def jz:StSh:=⟨(.sl 0::.sl 1::.any::.any::.any::.int .i64::.int .u64::.any::.int .u64::sqs 90 []),[some (23,1,.ints .u64),some (23,1,.ints .u64)]⟩
def yW:StSh:=⟨(sqs 6 (.int .u64::sqs 92 [])),[some (23,1,.ints .u64),some (23,1,.ints .u64)]⟩
def jv:List Atom->K->Bool:=λa_ κ=>match a_ with
 | [.nat u_5,.nat u_6,.nat v_4,.nat v_5,.int n_1,.int q_1,.int avS,.ints u_7,.ints v_6]=>ah N (Af N awz auL au0 auB u_5 u_6 v_4 v_5 n_1 v_6 (λr0 r1=>κ.ext 2 (yW.build [.int r0,.ints r1,.ints v_6]))) (q_1,avS,u_7)
 | _=>false
def ID:Nat->Option Ann:=λb_=>cond (b_==0) (some ⟨⟨[0,1,5,6,7,8,17,18],[],[],[]⟩,[(0,⟨[0,1,5,6,7,8],[],[],[]⟩)],some ⟨[4],[],[],[]⟩,some (aA [(jy,ju N awz auL au0 auB)])⟩) (cond (b_==4) (some ⟨⟨[0,1,5,6,7,8,60,61],[],[],[]⟩,[(4,⟨[0,1,5,6,7,8],[],[],[]⟩)],some ⟨[4],[],[],[]⟩,some (aA [(jA,jw N awz auL au0 auB)])⟩) (cond (b_==2) (some ⟨⟨[0,1,5,6,8],[],[],[]⟩,[(2,⟨[6],[],[],[]⟩)],some ⟨[4],[],[],[]⟩,some (aA [(jz,jv N awz auL au0 auB)])⟩) (none)))
def yK:ax (Lk N awz auL au0 auB) 2 (ID N awz auL au0 auB) (lp Pg 225 0) (jy,ju N awz auL au0 auB):=by
 intro a κ h;simp only at h;unfold ju at h;split at h
 ·rename_i u u_2 v v_2 n q carry borrow t17 t18 u_3 v_3;exact .trans (az (λ(v_:Int × Int × Int × LI)=>jy.build [.nat u,.nat u_2,.nat v,.nat v_2,.int n,.int q,.int v_.1,.int v_.2.1,.int t17,.int v_.2.2.1,.ints v_.2.2.2,.ints v_3]) (λv_ K_=>by obtain⟨carry,borrow,t18,u_3⟩:=v_; kernel_rfl) N (carry,borrow,t18,u_3)) h
 ·cases h
def yM:ax (Lk N awz auL au0 auB) 2 (ID N awz auL au0 auB) (lp Pg 225 2) (jA,jw N awz auL au0 auB):=by
 intro a κ h;simp only at h;unfold jw at h;split at h
 ·rename_i u_8 u_9 v_7 v_8 n_2 q_2 av4 awK t60 t61 awR v_9;exact .trans (az (λ(v_:Int × Int × LI)=>jA.build [.nat u_8,.nat u_9,.nat v_7,.nat v_8,.int n_2,.int q_2,.int v_.1,.int awK,.int t60,.int v_.2.1,.ints v_.2.2,.ints v_9]) (λv_ K_=>by obtain⟨av4,t61,awR⟩:=v_; kernel_rfl) N (av4,t61,awR)) h
 ·cases h
def yL:ax (Lk N awz auL au0 auB) 2 (ID N awz auL au0 auB) (lp Pg 225 1) (jz,jv N awz auL au0 auB):=by
 intro a κ h;simp only at h;unfold jv at h;split at h
 ·rename_i u_5 u_6 v_4 v_5 n_1 q_1 avS u_7 v_6;exact .trans (az (λ(v_:Int × Int × LI)=>jz.build [.nat u_5,.nat u_6,.nat v_4,.nat v_5,.int n_1,.int v_.1,.int v_.2.1,.ints v_.2.2,.ints v_6]) (λv_ K_=>by obtain⟨q_1,avS,u_7⟩:=v_; kernel_rfl) N (q_1,avS,u_7)) h
 ·cases h
def DJ:aC (Lk N awz auL au0 auB) 2 (ID N awz auL au0 auB) (lp Pg 225 0):=
 ar [(jy,ju N awz auL au0 auB)] (by kernel_rfl) ⟨yK _ _ _ _ _,trivial⟩
def DL:aC (Lk N awz auL au0 auB) 2 (ID N awz auL au0 auB) (lp Pg 225 2):=
 ar [(jA,jw N awz auL au0 auB)] (by kernel_rfl) ⟨yM _ _ _ _ _,trivial⟩
def DK:aC (Lk N awz auL au0 auB) 2 (ID N awz auL au0 auB) (lp Pg 225 1):=
 ar [(jz,jv N awz auL au0 auB)] (by kernel_rfl) ⟨yL _ _ _ _ _,trivial⟩
def aiR (aGf:ab Pg 236 (ahc awz)) (aBM:ab Pg 211 (G5 auL)) (aCZ:ab Pg 237 (QM au0)) (aAw:ab Pg 228 (Gn auB)):ab Pg 225 (ahe (an6 N awz auL au0 auB)):=by
 refine glZ N false (ID N awz auL au0 auB) (aa aGf (aa aBM (aa aCZ (aa aAw (ae _))))) 3 2 (λi_ hi_=>by
  match i_,hi_ with
  | 0,_=>exact DJ _ _ _ _ _
  | 1,_=>exact DK _ _ _ _ _
  | 2,_=>exact DL _ _ _ _ _
  | (q+3),h=>omega) ?_
 intro a k h;unfold am1 at h;split at h;exact⟨[_,_],rfl,rfl,.trans (by kernel_rfl) h⟩;cases h
def kL:StSh:=⟨(.sl 0::.any::.any::.int .i64::sqs 17 []),[some (23,1,.ints .u64)]⟩
def Bh:StSh:=⟨(.sl 0::.any::.any::.int .i64::sqs 17 []),[some (23,1,.ints .u64)]⟩
end
def kB (N:Nat):List Atom->K->Bool:=λa_ κ=>match a_ with
 | [.nat x,.nat x_2,.int n,.ints x_3]=>ah N (CX N x x_2 x_3 (λr2=>κ.ext 0 (Bh.build [.nat x,.nat x_2,.int r2,.ints x_3]))) n
 | _=>false
def Q9 (N:Nat):Nat->Option Ann:=λb_=>cond (b_==0) (some ⟨⟨[0,3],[],[],[]⟩,[(0,⟨[0,3],[],[],[]⟩)],some ⟨[2],[],[],[]⟩,some (aA [(kL,kB N)])⟩) (none)
def A6 (N:Nat):ax ⟨Pg,ak [],av,N⟩ 1 (Q9 N) (lp Pg 207 0) (kL,kB N):=by
 intro a κ h;simp only at h;unfold kB at h;split at h
 ·rename_i x x_2 n x_3;exact .trans (az (λv_=>kL.build [.nat x,.nat x_2,.int v_,.ints x_3]) (λv_ K_=>by kernel_rfl) N n) h
 ·cases h
def Gy (N:Nat):aC ⟨Pg,ak [],av,N⟩ 1 (Q9 N) (lp Pg 207 0):=
 ar [(kL,kB N)] (by kernel_rfl) ⟨A6 _,trivial⟩
def acd (N:Nat):ab Pg 207 (TO (Zq N)):=by
 refine glZ N false (Q9 N) (ae _) 1 1 (aG (Gy _)) ?_;intro a k h;unfold afi at h;split at h;exact⟨[_],rfl,rfl,.trans (by kernel_rfl) h⟩;cases h
def acs (N:Nat):ab Pg 232 (TT (Zz N)):=by
 refine gfZ N false (ae _) 1 ?_;intro a k h;unfold afu at h;split at h;exact⟨[_],rfl,rfl,.trans (by kernel_rfl) h⟩;cases h
def j5:StSh:=⟨(.sl 0::sqs 5 (.int .i64::.int .u64::.int .u64::sqs 28 (.sl 0::.int .i64::.int .i64::sqs 42 []))),[some (23,1,.ints .u64)]⟩
def Ak:StSh:=⟨(.sl 0::sqs 5 (.int .i64::.int .u64::.int .u64::sqs 73 [])),[some (23,1,.ints .u64)]⟩
section
variable (N:Nat) (av9:BU) (SQ9:lP)
noncomputable abbrev UN:Cx:=⟨Pg,ak [(232,(TT av9)),(207,(FQ9 SQ9))],av,N⟩
def jS:List Atom->K->Bool:=λa_ κ=>match a_ with
 | [.nat x,.nat x_2,.int words,.int rest,.int lost,.nat t37,.nat aBx,.int t38,.int t39,.ints x_3]=>ah N (qo N av9 SQ9 x x_2 words rest t37 aBx t38 x_3 (λr4=>κ.ext 0 (Ak.build [.nat x,.nat x_2,.int words,.int rest,.int r4,.ints x_3]))) (lost,t39)
 | _=>false
def j6:StSh:=⟨(.sl 0::sqs 5 (.int .i64::.int .u64::.int .u64::.any::.any::.slw 1::sqs 41 (.int .i64::.int .i64::sqs 27 []))),[some (23,1,.ints .u64),some (23,1,.ints .u64)]⟩
def Al:StSh:=⟨(sqs 8 (.int .u64::.any::.any::.slw 1::sqs 70 [])),[some (23,1,.ints .u64),some (23,1,.ints .u64)]⟩
def jT:List Atom->K->Bool:=λa_ κ=>match a_ with
 | [.nat x_4,.nat x_5,.int axt,.int axP,.int aAA,.int t53,.int t54,.ints x_6,.ints z]=>ah N (mK N av9 SQ9 x_4 x_5 axt axP aAA t53 x_6 (λr2=>κ.ext 2 (Al.build [.int aAA,.ints x_6,.ints r2]))) (t54,z)
 | _=>false
def Ot:Nat->Option Ann:=λb_=>cond (b_==0) (some ⟨⟨[0,6,7,8,37,38,39],[],[],[]⟩,[(0,⟨[0,6,7,8],[],[],[]⟩)],some ⟨[4,5],[],[],[]⟩,some (aA [(j5,jS N av9 SQ9)])⟩) (cond (b_==2) (some ⟨⟨[0,6,7,8,11,53,54],[],[],[]⟩,[(2,⟨[8,11],[],[],[]⟩)],some ⟨[4,5],[],[],[]⟩,some (aA [(j6,jT N av9 SQ9)])⟩) (none))
def zI:ax (UN N av9 SQ9) 1 (Ot N av9 SQ9) (lp Pg 226 0) (j5,jS N av9 SQ9):=by
 intro a κ h;simp only at h;unfold jS at h;split at h
 ·rename_i x x_2 words rest lost t37 aBx t38 t39 x_3;exact .trans (az (λ(v_:Int × Int)=>j5.build [.nat x,.nat x_2,.int words,.int rest,.int v_.1,.nat t37,.nat aBx,.int t38,.int v_.2,.ints x_3]) (λv_ K_=>by obtain⟨lost,t39⟩:=v_; kernel_rfl) N (lost,t39)) h
 ·cases h
def zJ:ax (UN N av9 SQ9) 1 (Ot N av9 SQ9) (lp Pg 226 1) (j6,jT N av9 SQ9):=by
 intro a κ h;simp only at h;unfold jT at h;split at h
 ·rename_i x_4 x_5 axt axP aAA t53 t54 x_6 z;exact .trans (az (λ(v_:Int × LI)=>j6.build [.nat x_4,.nat x_5,.int axt,.int axP,.int aAA,.int t53,.int v_.1,.ints x_6,.ints v_.2]) (λv_ K_=>by obtain⟨t54,z⟩:=v_; kernel_rfl) N (t54,z)) h
 ·cases h
def E_:aC (UN N av9 SQ9) 1 (Ot N av9 SQ9) (lp Pg 226 0):=
 ar [(j5,jS N av9 SQ9)] (by kernel_rfl) ⟨zI _ _ _,trivial⟩
def Fa:aC (UN N av9 SQ9) 1 (Ot N av9 SQ9) (lp Pg 226 1):=
 ar [(j6,jT N av9 SQ9)] (by kernel_rfl) ⟨zJ _ _ _,trivial⟩
def ai2 (aEz:ab Pg 232 (TT av9)) (hQ9:ab Pg 207 (FQ9 SQ9)):ab Pg 226 (ahn (ahv N av9 SQ9)):=by
 refine glZ N false (Ot N av9 SQ9) (aa aEz (aa hQ9 (ae _))) 2 1 (gJ (E_ _ _ _) (Fa _ _ _)) ?_;intro a k h;unfold ana at h;split at h;exact⟨[_],rfl,rfl,.trans (by kernel_rfl) h⟩;cases h
end
def jx:StSh:=⟨(sqs 8 (.int .u64::.nil::.sl 0::.int .i64::.slw 1::.int .i64::sqs 80 [])),[some (23,1,.ints .u64),some (23,1,.ints .u64)]⟩
def yU:StSh:=⟨(sqs 8 (.int .u64::.any::.sl 0::.any::.slw 1::sqs 81 [])),[some (23,1,.ints .u64),some (23,1,.ints .u64)]⟩
section
variable (N:Nat) (auz:pK) (auR:mY) (au9:za) (auJ:sj) (au_:Ib) (avH:FC) (ava:yY) (avL:FE) (avb:yZ) (avM:FF) (SQ9:lP)
noncomputable abbrev FP:Cx:=⟨Pg,ak [(209,(Mh auz)),(187,(G4 auR)),(223,(TU au9)),(186,(N1 auJ)),(224,(Wz au_)),(188,(aha avH)),(225,(KJ (TN ava) (ahe avL) Wf)),(207,(KJ (TO avb) (FQ9 SQ9) Wg)),(226,(ahn avM))],av,N⟩
def jt:List Atom->K->Bool:=λa_ κ=>match a_ with
 | [.int up,.nat u,.nat u_1,.int n,.int j,.ints u_2,.ints q]=>ah N (Ka N auz auR au9 auJ au_ avH ava avL avb avM SQ9 up u u_1 n (λr3 r4=>κ.ext 0 (yU.build [.int up,.nat u,.nat u_1,.ints r3,.ints r4]))) (j,u_2,q)
 | _=>false
def iI:StSh:=⟨(sqs 8 (.int .u64::.sl 0::.sl 1::.int .i64::.slw 2::.int .i64::sqs 80 [])),[some (23,1,.ints .u64),some (23,1,.ints .u64),some (23,1,.ints .u64)]⟩
def xc:StSh:=⟨(sqs 8 (.int .u64::.any::.sl 0::.any::.slw 1::sqs 81 [])),[some (23,1,.ints .u64),some (23,1,.ints .u64)]⟩
def iE:List Atom->K->Bool:=λa_ κ=>match a_ with
 | [.int aDg,.nat v,.nat v_1,.nat u_5,.nat u_6,.int n_1,.int j_1,.ints v_2,.ints u_7,.ints q_3]=>ah N (CU N auz auR au9 auJ au_ avH ava avL avb avM SQ9 aDg v v_1 u_5 u_6 n_1 v_2 (λr3 r4=>κ.ext 0 (xc.build [.int aDg,.nat u_5,.nat u_6,.ints r3,.ints r4]))) (j_1,u_7,q_3)
 | _=>false
def FH:Nat->Option Ann:=λb_=>cond (b_==0) (some ⟨⟨[8,9,10,11,12,13],[],[],[]⟩,[(0,⟨[8,10,12],[],[],[]⟩)],some ⟨[4,5],[],[],[]⟩,some (aA [(jx,jt N auz auR au9 auJ au_ avH ava avL avb avM SQ9),(iI,iE N auz auR au9 auJ au_ avH ava avL avb avM SQ9)])⟩) (none)
def yJ:ax (FP N auz auR au9 auJ au_ avH ava avL avb avM SQ9) 0 (FH N auz auR au9 auJ au_ avH ava avL avb avM SQ9) (lp Pg 210 0) (jx,jt N auz auR au9 auJ au_ avH ava avL avb avM SQ9):=by
 intro a κ h;simp only at h;unfold jt at h;split at h
 ·rename_i up u u_1 n j u_2 q;exact .trans (az (λ(v_:Int × LI × LI)=>jx.build [.int up,.nat u,.nat u_1,.int n,.int v_.1,.ints v_.2.1,.ints v_.2.2]) (λv_ K_=>by obtain⟨j,u_2,q⟩:=v_; kernel_rfl) N (j,u_2,q)) h
 ·cases h
def wK:ax (FP N auz auR au9 auJ au_ avH ava avL avb avM SQ9) 0 (FH N auz auR au9 auJ au_ avH ava avL avb avM SQ9) (lp Pg 210 0) (iI,iE N auz auR au9 auJ au_ avH ava avL avb avM SQ9):=by
 intro a κ h;simp only at h;unfold iE at h;split at h
 ·rename_i aDg v v_1 u_5 u_6 n_1 j_1 v_2 u_7 q_3;exact .trans (az (λ(v_:Int × LI × LI)=>iI.build [.int aDg,.nat v,.nat v_1,.nat u_5,.nat u_6,.int n_1,.int v_.1,.ints v_2,.ints v_.2.1,.ints v_.2.2]) (λv_ K_=>by obtain⟨j_1,u_7,q_3⟩:=v_; kernel_rfl) N (j_1,u_7,q_3)) h
 ·cases h
def DI:aC (FP N auz auR au9 auJ au_ avH ava avL avb avM SQ9) 0 (FH N auz auR au9 auJ au_ avH ava avL avb avM SQ9) (lp Pg 210 0):=
 ar [(jx,jt N auz auR au9 auJ au_ avH ava avL avb avM SQ9),(iI,iE N auz auR au9 auJ au_ avH ava avL avb avM SQ9)] (by kernel_rfl) ⟨yJ _ _ _ _ _ _ _ _ _ _ _ _,wK _ _ _ _ _ _ _ _ _ _ _ _,trivial⟩
def JF (d_:List V) (u_:List (Option Blk)) (x y:LI) (aCg:Int) (awR:Nat) (axR q_6:LI):St:=⟨(dqs d_ 0 8 (vwu aCg::(dq d_ 8)::.sl 0 0 awR::(dq d_ 9)::.slw 1::dqs d_ 10 81 [])),[some ⟨23,1,.ints .u64 axR⟩,some ⟨23,1,.ints .u64 q_6⟩]⟩
def aoY (d_:List V) (u_:List (Option Blk)) (x y:LI) (aCg:Int) (awR:Nat) (axR q_6:LI) (c_:KV):aU (FP N auz auR au9 auJ au_ avH ava avL avb avM SQ9) 0 (FH N auz auR au9 auJ au_ avH ava avL avb avM SQ9) ((cds Pg 210).drop 12) 0 (JF d_ u_ x y aCg awR axR q_6) (ky false Pg 210 0 c_)=K2 N auz auR au9 auJ au_ avH ava avL avb avM SQ9 x y aCg awR axR q_6 (λr0 r1=>c_ (.tup [vwr r0,vwr r1]) []):=by kernel_rfl
def DD (x y:LI) (c_:KV) (κn_:St->Bool):aU (FP N auz auR au9 auJ au_ avH ava avL avb avM SQ9) 0 (FH N auz auR au9 auJ au_ avH ava avL avb avM SQ9) (sg Pg 210 0 12) 0 (st0 Pg 210 (J0.args [.ints x,.ints y]) []) { (ky false Pg 210 0 c_)with nrm:=κn_ } = (auz x y (λnr=>cond (decide (nr<0)) (auR x (λnsr=>c_ (.tup [.roi .u64 [],vwr nsr]) [])) (cond (((y.length:Nat):Int)==1) (inR 0 y.length&&au9 x (y.getD 0 0) (λauo aur=>auJ aur (λauF=>c_ (.tup [vwr auo,vwr auF]) []))) (aj .i64 (((y.length:Nat):Int) - 1)&&(inR (((y.length:Nat):Int) - 1) y.length&&au_ (y.getD (Int.toNat (((y.length:Nat):Int) - 1)) 0) (λaut=>avH y (IntKind.wrap .u64 aut) (avH x (IntKind.wrap .u64 aut) (aj .i64 (((x.length:Nat):Int)+1)&&(decide (0<=(((x.length:Nat):Int)+1)/\(((x.length:Nat):Int)+1)<=2)&&(aj .i64 (((((Int.toNat (((x.length:Nat):Int)+1)) - 0):Nat):Int) - 0)&&(mB 8 (((((Int.toNat (((x.length:Nat):Int)+1)) - 0):Nat):Int) - 0) (((((Int.toNat (((x.length:Nat):Int)+1)) - 0):Nat):Int) - 0)&&(aj .i64 (((((Int.toNat (((x.length:Nat):Int)+1)) - 0):Nat):Int) - 0)&&(aj .i64 ((((((Int.toNat (((x.length:Nat):Int)+1)) - 0):Nat):Int) - 0) - 1)&&ah N (Ka N auz auR au9 auJ au_ avH ava avL avb avM SQ9 (IntKind.wrap .u64 aut) 0 ((Int.toNat (((x.length:Nat):Int)+1)) - 0) 0 (λu_3 q_1=>κn_ (JF (vqs 91 []) [] x y (IntKind.wrap .u64 aut) ((Int.toNat (((x.length:Nat):Int)+1)) - 0) u_3 q_1))) (((((((Int.toNat (((x.length:Nat):Int)+1)) - 0):Nat):Int) - 0) - 1),([]++[0,0]),(List.replicate (Int.toNat (((((Int.toNat (((x.length:Nat):Int)+1)) - 0):Nat):Int) - 0)) (0:Int))))))))) (λaww auv=>decide ((0+aww)<=auv.length)&&(decide ((List.length ((List.take aww (List.drop 0 auv))++[0,0]))*8<=140737488355328)&&(aj .i64 (((x.length:Nat):Int)+1)&&(decide (0<=(((x.length:Nat):Int)+1)/\(((x.length:Nat):Int)+1)<=(((List.length ((List.take aww (List.drop 0 auv))++[0,0])):Nat):Int))&&(aj .i64 (((((Int.toNat (((x.length:Nat):Int)+1)) - 0):Nat):Int) - 0)&&(mB 8 (((((Int.toNat (((x.length:Nat):Int)+1)) - 0):Nat):Int) - 0) (((((Int.toNat (((x.length:Nat):Int)+1)) - 0):Nat):Int) - 0)&&(aj .i64 (((((Int.toNat (((x.length:Nat):Int)+1)) - 0):Nat):Int) - 0)&&(aj .i64 ((((((Int.toNat (((x.length:Nat):Int)+1)) - 0):Nat):Int) - 0) - 1)&&ah N (Ka N auz auR au9 auJ au_ avH ava avL avb avM SQ9 (IntKind.wrap .u64 aut) 0 ((Int.toNat (((x.length:Nat):Int)+1)) - 0) 0 (λu_4 q_2=>κn_ (JF (vqs 91 []) [] x y (IntKind.wrap .u64 aut) ((Int.toNat (((x.length:Nat):Int)+1)) - 0) u_4 q_2))) (((((((Int.toNat (((x.length:Nat):Int)+1)) - 0):Nat):Int) - 0) - 1),((List.take aww (List.drop 0 auv))++[0,0]),(List.replicate (Int.toNat (((((Int.toNat (((x.length:Nat):Int)+1)) - 0):Nat):Int) - 0)) (0:Int)))))))))))) (λmr auC=>avH x (IntKind.wrap .u64 aut) (aj .i64 (((x.length:Nat):Int)+1)&&(decide (0<=(((x.length:Nat):Int)+1)/\(((x.length:Nat):Int)+1)<=2)&&(aj .i64 (((((Int.toNat (((x.length:Nat):Int)+1)) - 0):Nat):Int) - ((mr:Nat):Int))&&(mB 8 (((((Int.toNat (((x.length:Nat):Int)+1)) - 0):Nat):Int) - ((mr:Nat):Int)) (((((Int.toNat (((x.length:Nat):Int)+1)) - 0):Nat):Int) - ((mr:Nat):Int))&&(aj .i64 (((((Int.toNat (((x.length:Nat):Int)+1)) - 0):Nat):Int) - ((mr:Nat):Int))&&(aj .i64 ((((((Int.toNat (((x.length:Nat):Int)+1)) - 0):Nat):Int) - ((mr:Nat):Int)) - 1)&&ah N (CU N auz auR au9 auJ au_ avH ava avL avb avM SQ9 (IntKind.wrap .u64 aut) 0 mr 0 ((Int.toNat (((x.length:Nat):Int)+1)) - 0) ((mr:Nat):Int) auC (λu_8 q_4=>κn_ (JF (vqs 91 []) [] x y (IntKind.wrap .u64 aut) ((Int.toNat (((x.length:Nat):Int)+1)) - 0) u_8 q_4))) (((((((Int.toNat (((x.length:Nat):Int)+1)) - 0):Nat):Int) - ((mr:Nat):Int)) - 1),([]++[0,0]),(List.replicate (Int.toNat (((((Int.toNat (((x.length:Nat):Int)+1)) - 0):Nat):Int) - ((mr:Nat):Int))) (0:Int))))))))) (λavJ auu=>decide ((0+avJ)<=auu.length)&&(decide ((List.length ((List.take avJ (List.drop 0 auu))++[0,0]))*8<=140737488355328)&&(aj .i64 (((x.length:Nat):Int)+1)&&(decide (0<=(((x.length:Nat):Int)+1)/\(((x.length:Nat):Int)+1)<=(((List.length ((List.take avJ (List.drop 0 auu))++[0,0])):Nat):Int))&&(aj .i64 (((((Int.toNat (((x.length:Nat):Int)+1)) - 0):Nat):Int) - ((mr:Nat):Int))&&(mB 8 (((((Int.toNat (((x.length:Nat):Int)+1)) - 0):Nat):Int) - ((mr:Nat):Int)) (((((Int.toNat (((x.length:Nat):Int)+1)) - 0):Nat):Int) - ((mr:Nat):Int))&&(aj .i64 (((((Int.toNat (((x.length:Nat):Int)+1)) - 0):Nat):Int) - ((mr:Nat):Int))&&(aj .i64 ((((((Int.toNat (((x.length:Nat):Int)+1)) - 0):Nat):Int) - ((mr:Nat):Int)) - 1)&&ah N (CU N auz auR au9 auJ au_ avH ava avL avb avM SQ9 (IntKind.wrap .u64 aut) 0 mr 0 ((Int.toNat (((x.length:Nat):Int)+1)) - 0) ((mr:Nat):Int) auC (λu_9 q_5=>κn_ (JF (vqs 91 []) [] x y (IntKind.wrap .u64 aut) ((Int.toNat (((x.length:Nat):Int)+1)) - 0) u_9 q_5))) (((((((Int.toNat (((x.length:Nat):Int)+1)) - 0):Nat):Int) - ((mr:Nat):Int)) - 1),((List.take avJ (List.drop 0 auu))++[0,0]),(List.replicate (Int.toNat (((((Int.toNat (((x.length:Nat):Int)+1)) - 0):Nat):Int) - ((mr:Nat):Int))) (0:Int)))))))))))))))))):=by kernel_rfl
def DO (x y:LI) (c_:KV):aU (FP N auz auR au9 auJ au_ avH ava avL avb avM SQ9) 0 (FH N auz auR au9 auJ au_ avH ava avL avb avM SQ9) ((cds Pg 210).drop 0) 0 (st0 Pg 210 (J0.args [.ints x,.ints y]) []) (ky false Pg 210 0 c_)=N4 N auz auR au9 auJ au_ avH ava avL avb avM SQ9 x y (λr0 r1=>c_ (.tup [vwr r0,vwr r1]) []):=by rw[dC 0 12 12 rfl];refine(DD N auz auR au9 auJ au_ avH ava avL avb avM SQ9 x y c_ _).trans ?_;simp only[aoY];kernel_rfl
def aqT (x y:LI) (c_:KV):pM false (FP N auz auR au9 auJ au_ avH ava avL avb avM SQ9) (FH N auz auR au9 auJ au_ avH ava avL avb avM SQ9) 210 (J0.args [.ints x,.ints y]) [] c_=N4 N auz auR au9 auJ au_ avH ava avL avb avM SQ9 x y (λr0 r1=>c_ (.tup [vwr r0,vwr r1]) []):=
 (iM (by kernel_rfl)).trans (DO N auz auR au9 auJ au_ avH ava avL avb avM SQ9 x y c_)
def ah7 (aBI:ab Pg 209 (Mh auz)) (azl:ab Pg 187 (G4 auR)) (aEE:ab Pg 223 (TU au9)) (aBP:ab Pg 186 (N1 auJ)) (aDB:ab Pg 224 (Wz au_)) (aGd:ab Pg 188 (aha avH)) (aEl:ab Pg 225 (TN ava)) (aGi:ab Pg 225 (ahe avL)) (aEm:ab Pg 207 (TO avb)) (aGq:ab Pg 226 (ahn avM)) (hQ9:ab Pg 207 (FQ9 SQ9)):ab Pg 210 (NZ (N4 N auz auR au9 auJ au_ avH ava avL avb avM SQ9)):=by
 refine l3 (md:=false) (cx:=(FP N auz auR au9 auJ au_ avH ava avL avb avM SQ9)) (gT (aa aBI (aa azl (aa aEE (aa aBP (aa aDB (aa aGd (aa (ms aEl aGi) (aa (ms aEm hQ9) (aa aGq (ae _)))))))))) (by kernel_rfl)) J0 (agG (N4 N auz auR au9 auJ au_ avH ava avL avb avM SQ9)) (FH N auz auR au9 auJ au_ avH ava avL avb avM SQ9) 1 0 (by kernel_rfl) (aG (DI _ _ _ _ _ _ _ _ _ _ _ _)) ?_;intro a k h;unfold agG at h;split at h;exact⟨[],rfl,rfl,(aqT _ _ _ _ _ _ _ _ _ _ _ _ _ _ _).trans h⟩;cases h
end
def ac1 (N:Nat) (avo:pU) (aAt:ab Pg 232 (Fz avo)):ab Pg 222 (T5 (Z0 N avo)):=by
 refine gfZ N false (aa aAt (ae _)) 0 ?_;intro a k h;unfold afX at h;split at h;exact⟨[],rfl,rfl,.trans (by kernel_rfl) h⟩;cases h
def jY:StSh:=⟨(.roi .u64::.roi .u64::sqs 80 []),[]⟩
def Ah:StSh:=⟨(.roi .u64::.roi .u64::sqs 80 []),[]⟩
section
variable (N:Nat) (auz:pK) (au6:BO) (au5:pU) (au8:BS) (at9:cX) (auO:tO) (au4:BO) (auJ:sj)
noncomputable abbrev Bu:Cx:=⟨Pg,ak [(209,(Mh auz)),(218,(TL au6)),(220,(T6 au5)),(219,(TR au8)),(221,(jm at9)),(210,(NZ auO)),(222,(T5 au4)),(186,(N1 auJ))],av,N⟩
def jP:List Atom->K->Bool:=λa_ κ=>match a_ with
 | [.ints x_2,.ints y_2]=>ah N (Ft N auz au6 au5 au8 at9 auO au4 auJ (λr0 r1=>κ.ext 0 (Ah.build [.ints r0,.ints r1]))) (x_2,y_2)
 | _=>false
def jZ:StSh:=⟨(sqs 11 (.int .u64::.int .u64::sqs 69 [])),[]⟩
def Ai:StSh:=⟨(sqs 11 (.int .u64::sqs 70 [])),[]⟩
def jQ:List Atom->K->Bool:=λa_ κ=>match a_ with
 | [.int a,.int b]=>ah N (Kf N auz au6 au5 au8 at9 auO au4 auJ (λr0=>κ.ext 2 (Ai.build [.int r0]))) (a,b)
 | _=>false
def zk:Nat->Option Ann:=λb_=>cond (b_==0) (some ⟨⟨[0,1],[],[],[]⟩,[(0,⟨[0,1],[],[],[]⟩)],some ⟨[4],[],[],[]⟩,some (aA [(jY,jP N auz au6 au5 au8 at9 auO au4 auJ)])⟩) (cond (b_==2) (some ⟨⟨[11,12],[],[],[]⟩,[(2,⟨[11],[],[],[]⟩)],some ⟨[4],[],[],[]⟩,some (aA [(jZ,jQ N auz au6 au5 au8 at9 auO au4 auJ)])⟩) (none))
def zF:ax (Bu N auz au6 au5 au8 at9 auO au4 auJ) 0 (zk N auz au6 au5 au8 at9 auO au4 auJ) (lp Pg 208 0) (jY,jP N auz au6 au5 au8 at9 auO au4 auJ):=by
 intro a κ h;simp only at h;unfold jP at h;split at h
 ·rename_i x_2 y_2;exact .trans (az (λ(v_:LI × LI)=>jY.build [.ints v_.1,.ints v_.2]) (λv_ K_=>by obtain⟨x_2,y_2⟩:=v_; kernel_rfl) N (x_2,y_2)) h
 ·cases h
def zG:ax (Bu N auz au6 au5 au8 at9 auO au4 auJ) 0 (zk N auz au6 au5 au8 at9 auO au4 auJ) (lp Pg 208 1) (jZ,jQ N auz au6 au5 au8 at9 auO au4 auJ):=by
 intro a κ h;simp only at h;unfold jQ at h;split at h
 ·rename_i a b;exact .trans (az (λ(v_:Int × Int)=>jZ.build [.int v_.1,.int v_.2]) (λv_ K_=>by obtain⟨a,b⟩:=v_; kernel_rfl) N (a,b)) h
 ·cases h
def E7:aC (Bu N auz au6 au5 au8 at9 auO au4 auJ) 0 (zk N auz au6 au5 au8 at9 auO au4 auJ) (lp Pg 208 0):=
 ar [(jY,jP N auz au6 au5 au8 at9 auO au4 auJ)] (by kernel_rfl) ⟨zF _ _ _ _ _ _ _ _ _,trivial⟩
def E8:aC (Bu N auz au6 au5 au8 at9 auO au4 auJ) 0 (zk N auz au6 au5 au8 at9 auO au4 auJ) (lp Pg 208 1):=
 ar [(jZ,jQ N auz au6 au5 au8 at9 auO au4 auJ)] (by kernel_rfl) ⟨zG _ _ _ _ _ _ _ _ _,trivial⟩
def MW (d_:List V) (u_:List (Option Blk)) (x y x_4 y_4:LI):St:=⟨(vwr x_4::vwr y_4::dqs d_ 0 80 []),[]⟩
def MS (d_:List V) (u_:List (Option Blk)) (x y x_1 y_1:LI):St:=⟨(vwr x_1::vwr y_1::dqs d_ 0 80 []),[]⟩
def ao8 (d_:List V) (u_:List (Option Blk)) (x y x_4 y_4:LI) (c_:KV):aU (Bu N auz au6 au5 au8 at9 auO au4 auJ) 0 (zk N auz au6 au5 au8 at9 auO au4 auJ) ((cds Pg 208).drop 6) 0 (MW d_ u_ x y x_4 y_4) (ky false Pg 208 0 c_)=Da N auz au6 au5 au8 at9 auO au4 auJ x y x_4 y_4 (λr0=>c_ (vwr r0) []):=by kernel_rfl
def aoP (d_:List V) (u_:List (Option Blk)) (x y x_1 y_1:LI) (c_:KV) (κn_:St->Bool):aU (Bu N auz au6 au5 au8 at9 auO au4 auJ) 0 (zk N auz au6 au5 au8 at9 auO au4 auJ) (sg Pg 208 3 3) 0 (MS d_ u_ x y x_1 y_1) { (ky false Pg 208 0 c_)with nrm:=κn_ } = (ah N (Ft N auz au6 au5 au8 at9 auO au4 auJ (λx_3 y_3=>cond ((decide (((y_3.length:Nat):Int)>0))==true) (cond (decide (((x_3.length:Nat):Int)>1)) (auO x_3 y_3 (λauv auu=>κn_ (MW (vqs 7 (vwr auv::vwr auu::vqs 39 (vwr y_3::vwi ((y_3.length:Nat):Int)::.bool (decide (((y_3.length:Nat):Int)>0))::.bool true::vwr x_3::vwi ((x_3.length:Nat):Int)::.bool (decide (((x_3.length:Nat):Int)>1))::.bool true::.tup [vwr auv,vwr auu]::vwr x_3::vwr y_3::.tup [vwr auv,vwr auu]::vwr auv::vwr auu::vwr y_3::vwr auu::vqs 16 []))) [] x y y_3 auu))) (κn_ (MW (vqs 48 (vwr y_3::vwi ((y_3.length:Nat):Int)::.bool (decide (((y_3.length:Nat):Int)>0))::.bool true::vwr x_3::vwi ((x_3.length:Nat):Int)::.bool (decide (((x_3.length:Nat):Int)>1))::.bool false::vqs 24 [])) [] x y x_3 y_3))) (κn_ (MW (vqs 48 (vwr y_3::vwi ((y_3.length:Nat):Int)::.bool (decide (((y_3.length:Nat):Int)>0))::.bool false::.val undef::.val undef::.val undef::.bool false::vqs 24 [])) [] x y x_3 y_3)))) (x_1,y_1)):=by kernel_rfl
def ao1 (d_:List V) (u_:List (Option Blk)) (x y x_1 y_1:LI) (c_:KV):aU (Bu N auz au6 au5 au8 at9 auO au4 auJ) 0 (zk N auz au6 au5 au8 at9 auO au4 auJ) ((cds Pg 208).drop 3) 0 (MS d_ u_ x y x_1 y_1) (ky false Pg 208 0 c_)=N7 N auz au6 au5 au8 at9 auO au4 auJ x y x_1 y_1 (λr0=>c_ (vwr r0) []):=by rw[dC 3 3 6 rfl];refine(aoP N auz au6 au5 au8 at9 auO au4 auJ d_ u_ x y x_1 y_1 c_ _).trans ?_;simp only[ao8];kernel_rfl
def E4 (x y:LI) (c_:KV) (κn_:St->Bool):aU (Bu N auz au6 au5 au8 at9 auO au4 auJ) 0 (zk N auz au6 au5 au8 at9 auO au4 auJ) (sg Pg 208 0 3) 0 (st0 Pg 208 (Nf.args [.ints x,.ints y]) []) { (ky false Pg 208 0 c_)with nrm:=κn_ } = (auz x y (λnr=>cond (decide (nr<0)) (κn_ (MS (.any::.any::.nil::vqs 8 (vwr x::vwr y::vwi nr::.bool true::vwr y::vwr x::vqs 63 [])) [] x y y x)) (κn_ (MS (.any::.any::.nil::vqs 8 (vwr x::vwr y::vwi nr::.bool false::vqs 65 [])) [] x y x y)))):=by kernel_rfl
def Fb (x y:LI) (c_:KV):aU (Bu N auz au6 au5 au8 at9 auO au4 auJ) 0 (zk N auz au6 au5 au8 at9 auO au4 auJ) ((cds Pg 208).drop 0) 0 (st0 Pg 208 (Nf.args [.ints x,.ints y]) []) (ky false Pg 208 0 c_)=aaE N auz au6 au5 au8 at9 auO au4 auJ x y (λr0=>c_ (vwr r0) []):=by rw[dC 0 3 3 rfl];refine(E4 N auz au6 au5 au8 at9 auO au4 auJ x y c_ _).trans ?_;simp only[ao1];kernel_rfl
def aqY (x y:LI) (c_:KV):pM false (Bu N auz au6 au5 au8 at9 auO au4 auJ) (zk N auz au6 au5 au8 at9 auO au4 auJ) 208 (Nf.args [.ints x,.ints y]) [] c_=aaE N auz au6 au5 au8 at9 auO au4 auJ x y (λr0=>c_ (vwr r0) []):=
 (iM (by kernel_rfl)).trans (Fb N auz au6 au5 au8 at9 auO au4 auJ x y c_)
def aiM (aBI:ab Pg 209 (Mh auz)) (aEk:ab Pg 218 (TL au6)) (aEX:ab Pg 220 (T6 au5)) (aEt:ab Pg 219 (TR au8)) (ayp:ab Pg 221 (jm at9)) (aCY:ab Pg 210 (NZ auO)) (aEW:ab Pg 222 (T5 au4)) (aBP:ab Pg 186 (N1 auJ)):ab Pg 208 (QR (aaE N auz au6 au5 au8 at9 auO au4 auJ)):=by
 refine glZ N false (zk N auz au6 au5 au8 at9 auO au4 auJ) (aa aBI (aa aEk (aa aEX (aa aEt (aa ayp (aa aCY (aa aEW (aa aBP (ae _))))))))) 2 0 (gJ (E7 _ _ _ _ _ _ _ _ _) (E8 _ _ _ _ _ _ _ _ _)) ?_;intro a k h;unfold amW at h;split at h;exact⟨[],rfl,rfl,(aqY _ _ _ _ _ _ _ _ _ _ _ _).trans h⟩;cases h
end
def aig (N:Nat):ab Pg 185 (WE (aaB N)):=by
 refine gfZ N false (ae _) 1 ?_;intro a k h;unfold amu at h;split at h;exact⟨[_],rfl,rfl,.trans (by kernel_rfl) h⟩;cases h
def aiD (N:Nat):ab Pg 185 (Za (ahs N)):=by
 refine gfZ N false (ae _) 1 ?_;intro a k h;unfold amN at h;split at h;exact⟨[_],rfl,rfl,.trans (by kernel_rfl) h⟩;cases h
section
variable (N:Nat) (av7:B8) (auz:pK) (auO:tO) (auR:mY) (awy:zd) (awN:Di)
noncomputable abbrev OU:Cx:=⟨Pg,ak [(208,(QR av7)),(209,(Mh auz)),(210,(NZ auO)),(187,(G4 auR)),(185,(KJ (WE awy) (Za awN) Nb))],av,N⟩
def Is (N:Nat) (av7:B8) (auz:pK) (auO:tO) (auR:mY) (awy:zd) (awN:Di):Nat->Option Ann:=λb_=>none
def Sr (d_:List V) (u_:List (Option Blk)) (neg:Bool) (a b:LI) (b_1 b_2:Bool) (a_1 b_3:LI):St:=⟨(.ptr 0 0::.bool neg::vwr a_1::vwr b_3::dqs d_ 0 39 []),[some ⟨210,1,.cells [.bool b_1,.nil,.bool b_2,.nil]⟩,(u_.getD 0 none)]⟩
def ao5 (d_:List V) (u_:List (Option Blk)) (neg:Bool) (a b:LI) (b_1 b_2:Bool) (a_1 b_3:LI) (c_:KV):aU (OU N av7 auz auO auR awy awN) 1 (Is N av7 auz auO auR awy awN) ((cds Pg 190).drop 4) 0 (Sr d_ u_ neg a b b_1 b_2 a_1 b_3) (ky false Pg 190 1 c_)=N8 N av7 auz auO auR awy awN neg a b b_1 b_2 a_1 b_3 (λr0 r1 r2 r3=>c_ (.ptr 0 0) [⟨210,1,.cells [.bool r0,vwr r1,.bool r2,vwr r3]⟩]):=by kernel_rfl
def aoT (neg:Bool) (a b:LI) (b_1 b_2:Bool) (c_:KV) (κn_:St->Bool):aU (OU N av7 auz auO auR awy awN) 1 (Is N av7 auz auO auR awy awN) (sg Pg 190 0 4) 0 (st0 Pg 190 (Ee.args [.bool neg,.ints a,.ints b,.bool b_1,.bool b_2]) [⟨210,1,.cells [.bool b_1,.nil,.bool b_2,.nil]⟩]) { (ky false Pg 190 1 c_)with nrm:=κn_ } = (av7 a b (λnsr=>auz nsr [1] (λnr=>cond (nr != 0) (auO a nsr (λauo auF=>auO b nsr (λauC auv=>κn_ (Sr (vqs 4 (.val (.pointer none)::vwr nsr::vwr a::vwr b::vwr nsr::vwr nsr::.slw 1::vwi nr::.bool true::.tup [vwr auo,vwr auF]::vwr a::vwr nsr::.tup [vwr auo,vwr auF]::vwr auo::vwr auF::.tup [vwr auC,vwr auv]::vwr b::vwr nsr::.tup [vwr auC,vwr auv]::vwr auC::vwr auv::vqs 14 [])) [some ⟨23,1,.ints .u64 [1]⟩] neg a b b_1 b_2 auo auC)))) (κn_ (Sr (vqs 4 (.val (.pointer none)::vwr nsr::vwr a::vwr b::vwr nsr::vwr nsr::.slw 1::vwi nr::.bool false::vqs 26 [])) [some ⟨23,1,.ints .u64 [1]⟩] neg a b b_1 b_2 a b))))):=by kernel_rfl
def ape (neg:Bool) (a b:LI) (b_1 b_2:Bool) (c_:KV):aU (OU N av7 auz auO auR awy awN) 1 (Is N av7 auz auO auR awy awN) ((cds Pg 190).drop 0) 0 (st0 Pg 190 (Ee.args [.bool neg,.ints a,.ints b,.bool b_1,.bool b_2]) [⟨210,1,.cells [.bool b_1,.nil,.bool b_2,.nil]⟩]) (ky false Pg 190 1 c_)=KU N av7 auz auO auR awy awN neg a b b_1 b_2 (λr0 r1 r2 r3=>c_ (.ptr 0 0) [⟨210,1,.cells [.bool r0,vwr r1,.bool r2,vwr r3]⟩]):=by rw[dC 0 4 4 rfl];refine(aoT N av7 auz auO auR awy awN neg a b b_1 b_2 c_ _).trans ?_;simp only[ao5];kernel_rfl
def aop (neg:Bool) (a b:LI) (b_1 b_2:Bool) (c_:KV):pM false (OU N av7 auz auO auR awy awN) (Is N av7 auz auO auR awy awN) 190 (Ee.args [.bool neg,.ints a,.ints b,.bool b_1,.bool b_2]) [⟨210,1,.cells [.bool b_1,.nil,.bool b_2,.nil]⟩] c_=KU N av7 auz auO auR awy awN neg a b b_1 b_2 (λr0 r1 r2 r3=>c_ (.ptr 0 0) [⟨210,1,.cells [.bool r0,vwr r1,.bool r2,vwr r3]⟩]):=
 (iM (by kernel_rfl)).trans (ape N av7 auz auO auR awy awN neg a b b_1 b_2 c_)
def acp (aBQ:ab Pg 208 (QR av7)) (aBI:ab Pg 209 (Mh auz)) (aCY:ab Pg 210 (NZ auO)) (azl:ab Pg 187 (G4 auR)) (aC0:ab Pg 185 (WE awy)) (aDJ:ab Pg 185 (Za awN)):ab Pg 190 (Yq (KU N av7 auz auO auR awy awN)):=by
 refine l3 (md:=false) (cx:=(OU N av7 auz auO auR awy awN)) (gT (aa aBQ (aa aBI (aa aCY (aa azl (aa (ms aC0 aDJ) (ae _)))))) (by kernel_rfl)) Ee (Tp (KU N av7 auz auO auR awy awN)) (Is N av7 auz auO auR awy awN) 0 1 (by kernel_rfl) (λi_ hi_=>by omega) ?_;intro a k h;unfold Tp at h;split at h;exact⟨[_],rfl,rfl,(aop _ _ _ _ _ _ _ _ _ _ _ _ _).trans h⟩;cases h
end
def ah6 (N:Nat) (azx:Hk) (aEw:ab Pg 190 (Yq azx)):ab Pg 156 (Y7 (ahq N azx)):=by
 refine gfZ N false (aa aEw (ae _)) 3 ?_;intro a k h;unfold aml at h;split at h;exact⟨[_,_,_],rfl,rfl,.trans (by kernel_rfl) h⟩;cases h
def lN:StSh:=⟨(.any::.roi .u64::.any::.any::.any::.slw 0::.int .i64::.int .u64::.int .u64::sqs 16 (.roi .u64::.int .i64::.int .i64::sqs 4 (.roi .u64::.int .i64::.int .i64::sqs 33 []))),[some (23,1,.ints .u64)]⟩
def C6:StSh:=⟨(.any::.roi .u64::.any::.any::.any::.slw 0::.int .i64::.any::.int .u64::sqs 16 (.roi .u64::.int .i64::.int .i64::sqs 40 [])),[some (23,1,.ints .u64)]⟩
section
variable (N:Nat) (auL:pL) (SQ9:lP)
noncomputable abbrev UO:Cx:=⟨Pg,ak [(211,(G5 auL)),(207,(FQ9 SQ9))],av,N⟩
def lH:List Atom->K->Bool:=λa_ κ=>match a_ with
 | [.ints y_2,.int i,.int a,.int carry,.ints aBu,.int aBv,.int aBw,.ints t32,.int t33,.int t34,.ints z_1]=>ah N (o9 N auL SQ9 y_2 i a aBu aBv aBw t32 t33 (λr2 r6=>κ.ext 2 (C6.build [.ints y_2,.int i,.int r2,.ints aBu,.int aBv,.int aBw,.ints r6]))) (carry,t34,z_1)
 | _=>false
def lM:StSh:=⟨(.any::.roi .u64::.any::.any::.any::.slw 0::sqs 19 (.roi .u64::.int .i64::.int .i64::sqs 40 [])),[some (23,1,.ints .u64)]⟩
def C5:StSh:=⟨(sqs 5 (.slw 0::sqs 62 [])),[some (23,1,.ints .u64)]⟩
def lG:List Atom->K->Bool:=λa_ κ=>match a_ with
 | [.ints y_1,.ints t25,.int t26,.int t27,.ints z]=>ah N (o8 N auL SQ9 y_1 t25 t26 (λr0=>κ.ext 0 (C5.build [.ints r0]))) (t27,z)
 | _=>false
def It:Nat->Option Ann:=λb_=>cond (b_==2) (some ⟨⟨[1,5,6,7,8,25,26,27,32,33,34],[],[],[]⟩,[(2,⟨[1,5,6,8,25,26,27],[],[],[]⟩)],some ⟨[4],[],[],[]⟩,some (aA [(lN,lH N auL SQ9)])⟩) (cond (b_==0) (some ⟨⟨[1,5,25,26,27],[],[],[]⟩,[(0,⟨[5],[],[],[]⟩)],some ⟨[4],[],[],[]⟩,some (aA [(lM,lG N auL SQ9)])⟩) (none))
def CD:ax (UO N auL SQ9) 0 (It N auL SQ9) (lp Pg 192 1) (lN,lH N auL SQ9):=by
 intro a κ h;simp only at h;unfold lH at h;split at h
 ·rename_i y_2 i a carry aBu aBv aBw t32 t33 t34 z_1;exact .trans (az (λ(v_:Int × Int × LI)=>lN.build [.ints y_2,.int i,.int a,.int v_.1,.ints aBu,.int aBv,.int aBw,.ints t32,.int t33,.int v_.2.1,.ints v_.2.2]) (λv_ K_=>by obtain⟨carry,t34,z_1⟩:=v_; kernel_rfl) N (carry,t34,z_1)) h
 ·cases h
def CC:ax (UO N auL SQ9) 0 (It N auL SQ9) (lp Pg 192 0) (lM,lG N auL SQ9):=by
 intro a κ h;simp only at h;unfold lG at h;split at h
 ·rename_i y_1 t25 t26 t27 z;exact .trans (az (λ(v_:Int × LI)=>lM.build [.ints y_1,.ints t25,.int t26,.int v_.1,.ints v_.2]) (λv_ K_=>by obtain⟨t27,z⟩:=v_; kernel_rfl) N (t27,z)) h
 ·cases h
def Jd:aC (UO N auL SQ9) 0 (It N auL SQ9) (lp Pg 192 1):=
 ar [(lN,lH N auL SQ9)] (by kernel_rfl) ⟨CD _ _ _,trivial⟩
def Jc:aC (UO N auL SQ9) 0 (It N auL SQ9) (lp Pg 192 0):=
 ar [(lM,lG N auL SQ9)] (by kernel_rfl) ⟨CC _ _ _,trivial⟩
def acx (aBM:ab Pg 211 (G5 auL)) (hQ9:ab Pg 207 (FQ9 SQ9)):ab Pg 192 (KP (ZD N auL SQ9)):=by
 refine glZ N false (It N auL SQ9) (aa aBM (aa hQ9 (ae _))) 2 0 (gJ (Jc _ _ _) (Jd _ _ _)) ?_;intro a k h;unfold afy at h;split at h;exact⟨[],rfl,rfl,.trans (by kernel_rfl) h⟩;cases h
end
def aiG (N:Nat) (awl:B8) (ax3:Dl) (aAv:ab Pg 192 (KP awl)) (aC5:ab Pg 185 (Zd ax3)):ab Pg 158 (ahb (anZ N awl ax3)):=by
 refine gfZ N false (aa aAv (aa aC5 (ae _))) 2 ?_;intro a k h;unfold amQ at h;split at h;exact⟨[_,_],rfl,rfl,.trans (by kernel_rfl) h⟩;cases h
def aco (N:Nat):ab Pg 185 (Yp (Zx N)):=by
 refine gfZ N false (ae _) 2 ?_;intro a k h;unfold afr at h;split at h;exact⟨[_,_],rfl,rfl,.trans (by kernel_rfl) h⟩;cases h
def acu (N:Nat) (awy:zd) (azw:Hj) (aC0:ab Pg 185 (WE awy)) (aEv:ab Pg 185 (Yp azw)):ab Pg 191 (Ys (ZA N awy azw)):=by
 refine gfZ N false (aa (ms (sh:=Nb) aC0 aEv) (ae _)) 2 ?_;intro a k h;unfold afv at h;split at h;exact⟨[_,_],rfl,rfl,.trans (by kernel_rfl) h⟩;cases h
def ait (N:Nat) (auR:mY) (azz:Hm) (azl:ab Pg 187 (G4 auR)) (aEA:ab Pg 191 (Ys azz)):ab Pg 157 (ag6 (anO N auR azz)):=by
 refine gfZ N false (aa azl (aa aEA (ae _))) 2 ?_;intro a k h;unfold amE at h;split at h;exact⟨[_,_],rfl,rfl,.trans (by kernel_rfl) h⟩;cases h
section
variable (N:Nat) (awb:B9) (at8:aR) (awX:Ie) (awY:Im) (avN:xj) (aw8:Ii) (awM:Dc) (aw6:Ig) (aw5:Ic)
noncomputable abbrev OV:Cx:=⟨Pg,ak [(151,(Ug awb)),(131,(cY at8)),(152,(ag_ awX)),(153,(ahk awY)),(155,(NR avN)),(154,(ahg aw8)),(156,(Y7 awM)),(158,(ahb aw6)),(157,(ag6 aw5))],av,N⟩
def iy (N:Nat) (awb:B9) (at8:aR) (awX:Ie) (awY:Im) (avN:xj) (aw8:Ii) (awM:Dc) (aw6:Ig) (aw5:Ic):Nat->Option Ann:=λb_=>none
def ll (d_:List V) (u_:List (Option Blk)) (x:Fl) (p:Bool) (p_1 p_2:Int) (n:Bool) (n_1:LI):St:=⟨((dq d_ 0)::(dq d_ 1)::.ptr 0 0::.ptr 1 0::(dq d_ 2)::.ptr 2 0::dqs d_ 3 43 []),[some ⟨179,1,.cells [.val (.pointer none)]⟩,some ⟨198,1,.cells [.bool p,vwu p_1,vwi p_2]⟩,some ⟨204,1,.cells [.bool n,vwr n_1]⟩]⟩
def yQ (d_:List V) (u_:List (Option Blk)) (x:Fl) (p:Bool) (p_1 p_2:Int) (n:Bool) (n_1:LI) (c_:KV):aU (OV N awb at8 awX awY avN aw8 awM aw6 aw5) 0 (iy N awb at8 awX awY avN aw8 awM aw6 aw5) ((cds Pg 132).drop 6) 0 (ll d_ u_ x p p_1 p_2 n n_1) (ky true Pg 132 0 c_)=dA N awb at8 awX awY avN aw8 awM aw6 aw5 x p p_1 p_2 n n_1 (λr0 r1 r2 r3=>c_ (.agg [.rp [.bool r0,vwr r1,.bool r2,vwr r3] 0]) []):=by kernel_rfl
def yI (x:Fl) (c_:KV) (κn_:St->Bool):aU (OV N awb at8 awX awY avN aw8 awM aw6 aw5) 0 (iy N awb at8 awX awY avN aw8 awM aw6 aw5) (sg Pg 132 0 6) 0 (st0 Pg 132 (hK.args [.fl x]) []) { (ky true Pg 132 0 c_)with nrm:=κn_ } = (awb x (λcr nr aur aut=>at8 (aut==0) 4 (awX nr false (λauN nsr=>cond cr (awY auN nsr (λavT auo=>κn_ (ll (.flt x::.any::vwi aut::.any::.tup [.agg [.bool cr,vwu nr,vwi aur],vwi aut]::.flt x::.tup [.agg [.bool cr,vwu nr,vwi aur],vwi aut]::.agg [.bool cr,vwu nr,vwi aur]::vwi aut::vwi aut::.bool (aut==0)::.tup []::.ptr 2 0::.ptr 1 1::vwu nr::.ptr 2 0::.ptr 1 0::.bool true::.ptr 2 0::.ptr 2 0::.ptr 2 0::vqs 25 []) [] x cr nr aur avT auo))) (κn_ (ll (.flt x::.any::vwi aut::.any::.tup [.agg [.bool cr,vwu nr,vwi aur],vwi aut]::.flt x::.tup [.agg [.bool cr,vwu nr,vwi aur],vwi aut]::.agg [.bool cr,vwu nr,vwi aur]::vwi aut::vwi aut::.bool (aut==0)::.tup []::.ptr 2 0::.ptr 1 1::vwu nr::.ptr 2 0::.ptr 1 0::.bool false::vqs 28 []) [] x cr nr aur auN nsr)))))):=by kernel_rfl
def yR (x:Fl) (c_:KV):aU (OV N awb at8 awX awY avN aw8 awM aw6 aw5) 0 (iy N awb at8 awX awY avN aw8 awM aw6 aw5) ((cds Pg 132).drop 0) 0 (st0 Pg 132 (hK.args [.fl x]) []) (ky true Pg 132 0 c_)=gG N awb at8 awX awY avN aw8 awM aw6 aw5 x (λr0 r1 r2 r3=>c_ (.agg [.rp [.bool r0,vwr r1,.bool r2,vwr r3] 0]) []):=by rw[dC 0 6 6 rfl];refine(yI N awb at8 awX awY avN aw8 awM aw6 aw5 x c_ _).trans ?_;simp only[yQ];kernel_rfl
def A1 (x:Fl) (c_:KV):pM true (OV N awb at8 awX awY avN aw8 awM aw6 aw5) (iy N awb at8 awX awY avN aw8 awM aw6 aw5) 132 (hK.args [.fl x]) [] c_=gG N awb at8 awX awY avN aw8 awM aw6 aw5 x (λr0 r1 r2 r3=>c_ (.agg [.rp [.bool r0,vwr r1,.bool r2,vwr r3] 0]) []):=
 (iM (by kernel_rfl)).trans (yR N awb at8 awX awY avN aw8 awM aw6 aw5 x c_)
def yG (aFd:ab Pg 151 (Ug awb)) (avI:ab Pg 131 (cY at8)) (aGc:ab Pg 152 (ag_ awX)) (aGn:ab Pg 153 (ahk awY)) (aCL:ab Pg 155 (NR avN)) (aGk:ab Pg 154 (ahg aw8)) (aDE:ab Pg 156 (Y7 awM)) (aGe:ab Pg 158 (ahb aw6)) (aF9:ab Pg 157 (ag6 aw5)):ab Pg 132 (ku (gG N awb at8 awX awY avN aw8 awM aw6 aw5)):=by
 refine l3 (md:=true) (cx:=(OV N awb at8 awX awY avN aw8 awM aw6 aw5)) (gT (aa aFd (aa avI (aa aGc (aa aGn (aa aCL (aa aGk (aa aDE (aa aGe (aa aF9 (ae _)))))))))) (by kernel_rfl)) hK (nj (gG N awb at8 awX awY avN aw8 awM aw6 aw5)) (iy N awb at8 awX awY avN aw8 awM aw6 aw5) 0 0 (by kernel_rfl) (λi_ hi_=>by omega) ?_;intro a k h;unfold nj at h;split at h;exact⟨[],rfl,rfl,(A1 _ _ _ _ _ _ _ _ _ _ _ _).trans h⟩;cases h
def dP:StSh:=⟨(.any::.any::.ptr 0 0::.any::.ptr 1 0::sqs 14 (.rof::.int .i64::.int .i64::sqs 12 [])),[some (161,1,.cells [.int .i64,.int .i64,.nil]),some (161,1,.cells [.int .i64,.int .i64,.slw 2]),some (179,1,.recs RT1)]⟩
def mi:StSh:=⟨(.any::.any::.ptr 0 0::.any::.ptr 1 0::sqs 29 []),[some (161,1,.cells [.int .i64,.int .i64,.nil]),some (161,1,.cells [.int .i64,.int .i64,.slw 2]),some (179,1,.recs RT1)]⟩
end
section
variable (N:Nat) (avF:wh) (at8:aR) (aul:gi)
noncomputable abbrev abi:Cx:=⟨Pg,ak [(71,(N0 avF)),(131,(cY at8)),(132,(ku aul))],av,N⟩
def gy:List Atom->K->Bool:=λa_ κ=>match a_ with
 | [.fls aAb,.int aAC,.int axb,.int axz,.int axA,.int g_2,.int g_3,.recs t7_ b2]=>RT.cast RT1 t7_ b2 (λb2=>ah N (gf N avF at8 aul aAb aAC axz axA g_2 g_3 (λr4=>κ.ext 0 (mi.build [.int axz,.int axA,.int g_2,.int g_3,.recs RT1 r4]))) (axb,b2)) false
 | _=>false
def g9:Nat->Option Ann:=λb_=>cond (b_==0) (some ⟨⟨[2,4,19,20,21],[(4,some 2,358)],[],[]⟩,[(0,⟨[2,4],[],[],[]⟩)],some ⟨[2],[],[],[]⟩,some (aA [(dP,gy N avF at8 aul)])⟩) (none)
def uM (κ:K) (aAb:LF) (aAC axb axz axA g_2 g_3:Int) (b2:List RY1):rU N (λs k=>cZ (abi N avF at8 aul) 0 (g9 N avF at8 aul) (lp Pg 117 0).2 (lp Pg 117 0).1 s (kH Pg 0 ((g9 N avF at8 aul) (lp Pg 117 0).1) κ k)) (dP.build [.fls aAb,.int aAC,.int axb,.int axz,.int axA,.int g_2,.int g_3,.recs RT1 b2])=ah N (gf N avF at8 aul aAb aAC axz axA g_2 g_3 (λr4=>κ.ext 0 (mi.build [.int axz,.int axA,.int g_2,.int g_3,.recs RT1 r4]))) (axb,b2):=
 az (λ(v_:Int × List RY1)=>dP.build [.fls aAb,.int aAC,.int v_.1,.int axz,.int axA,.int g_2,.int g_3,.recs RT1 v_.2]) (λv_ K_=>by obtain⟨axb,b2⟩:=v_; kernel_rfl) N (axb,b2)
def uc:ax (abi N avF at8 aul) 0 (g9 N avF at8 aul) (lp Pg 117 0) (dP,gy N avF at8 aul):=by
 intro a κ h;simp only at h;unfold gy at h;split at h
 ·obtain⟨e_,h⟩:=RT.cast_inv h (by decide); subst e_; exact(uM _ _ _ _ _ _ _ _ _ _ _ _ _).trans h
 ·cases h
def xO:aC (abi N avF at8 aul) 0 (g9 N avF at8 aul) (lp Pg 117 0):=
 ar [(dP,gy N avF at8 aul)] (by kernel_rfl) ⟨uc _ _ _ _,trivial⟩
def xH (aBK:ab Pg 71 (N0 avF)) (avI:ab Pg 131 (cY at8)) (ayL:ab Pg 132 (ku aul)):ab Pg 117 (jL (nc N avF at8 aul)):=by
 refine glV N (g9 N avF at8 aul) (aa aBK (aa avI (aa ayL (ae _)))) 1 0 (aG (xO _ _ _ _)) ?_;intro a k h;unfold rj at h;split at h;exact⟨[],rfl,rfl,.trans (by kernel_rfl) h⟩;cases h
end
def tX (N:Nat):ab Pg 159 (bL (j_ N)):=by
 refine gfV N (ae _) 1 ?_;intro a k h;unfold nD at h;split at h
 ·obtain⟨e_,h⟩:=RT.cast_inv h (by decide); subst e_; exact⟨[_],rfl,rfl,.trans (by kernel_rfl) h⟩
 ·cases h
def aiw (N:Nat):ab Pg 217 (QP (anR N)):=by
 refine gfZ N false (ae _) 0 ?_;intro a k h;unfold amH at h;split at h;exact⟨[],rfl,rfl,.trans (by kernel_rfl) h⟩;cases h
def aip (N:Nat) (awy:zd) (awN:Di) (aC0:ab Pg 185 (WE awy)) (aDJ:ab Pg 185 (Za awN)):ab Pg 191 (WG (anM N awy awN)):=by
 refine gfZ N false (aa (ms (sh:=Nb) aC0 aDJ) (ae _)) 1 ?_;intro a k h;unfold amC at h;split at h;exact⟨[_],rfl,rfl,.trans (by kernel_rfl) h⟩;cases h
def acI (N:Nat) (auR:mY) (awT:wj) (axw:zf) (azl:ab Pg 187 (G4 auR)) (aA9:ab Pg 217 (QP awT)) (aBN:ab Pg 191 (WG axw)):ab Pg 213 (Yy (ZK N auR awT axw)):=by
 refine gfZ N false (aa azl (aa aA9 (aa aBN (ae _)))) 1 ?_;intro a k h;unfold afH at h;split at h;exact⟨[_],rfl,rfl,.trans (by kernel_rfl) h⟩;cases h
def acr (N:Nat):ab Pg 217 (Yr (Zy N)):=by
 refine gfZ N false (ae _) 1 ?_;intro a k h;unfold aft at h;split at h;exact⟨[_],rfl,rfl,.trans (by kernel_rfl) h⟩;cases h
section
variable (N:Nat) (auO:tO)
noncomputable abbrev OW:Cx:=⟨Pg,ak [(210,(NZ auO))],av,N⟩
def Ix (N:Nat) (auO:tO):Nat->Option Ann:=λb_=>none
def SB (d_:List V) (u_:List (Option Blk)) (x y:LI):St:=⟨(vwr x::vwr y::dqs d_ 0 22 []),[]⟩
def apc (d_:List V) (u_:List (Option Blk)) (x y:LI) (c_:KV):aU (OW N auO) 0 (Ix N auO) ((cds Pg 229).drop 3) 0 (SB d_ u_ x y) (ky false Pg 229 0 c_)=Oc N auO x y (λr0=>c_ (vwr r0) []):=by kernel_rfl
def Kx (x y:LI) (c_:KV) (κn_:St->Bool):aU (OW N auO) 0 (Ix N auO) (sg Pg 229 0 3) 0 (st0 Pg 229 (Ei.args [.ints x,.ints y]) []) { (ky false Pg 229 0 c_)with nrm:=κn_ } = (cond ((((y.length:Nat):Int)==1)==true) (inR 0 y.length&&cond ((y.getD 0 0)==1) (c_ (vwr x) []) (κn_ (SB (.any::.any::.nil::.any::.any::vwr y::vwi ((y.length:Nat):Int)::.bool (((y.length:Nat):Int)==1)::.bool true::vwr y::.pi .u64 y 0::vwu (y.getD 0 0)::.bool ((y.getD 0 0)==1)::.bool false::vqs 8 []) [] x y))) (κn_ (SB (.any::.any::.nil::.any::.any::vwr y::vwi ((y.length:Nat):Int)::.bool (((y.length:Nat):Int)==1)::.bool false::.val undef::.val undef::.val undef::.val undef::.bool false::vqs 8 []) [] x y))):=by kernel_rfl
def KC (x y:LI) (c_:KV):aU (OW N auO) 0 (Ix N auO) ((cds Pg 229).drop 0) 0 (st0 Pg 229 (Ei.args [.ints x,.ints y]) []) (ky false Pg 229 0 c_)=KZ N auO x y (λr0=>c_ (vwr r0) []):=by rw[dC 0 3 3 rfl];refine(Kx N auO x y c_ _).trans ?_;simp only[apc];kernel_rfl
def aot (x y:LI) (c_:KV):pM false (OW N auO) (Ix N auO) 229 (Ei.args [.ints x,.ints y]) [] c_=KZ N auO x y (λr0=>c_ (vwr r0) []):=
 (iM (by kernel_rfl)).trans (KC N auO x y c_)
def ac4 (aCY:ab Pg 210 (NZ auO)):ab Pg 229 (NU (KZ N auO)):=by
 refine l3 (md:=false) (cx:=(OW N auO)) (gT (aa aCY (ae _)) (by kernel_rfl)) Ei (Tw (KZ N auO)) (Ix N auO) 0 0 (by kernel_rfl) (λi_ hi_=>by omega) ?_;intro a k h;unfold Tw at h;split at h;exact⟨[],rfl,rfl,(aot _ _ _ _ _).trans h⟩;cases h
def nO:StSh:=⟨(.roi .u64::.roi .u64::.any::.any::.any::.int .i64::.slw 0::.int .u64::sqs 9 (.int .i64::.int .i64::sqs 23 [])),[some (23,1,.ints .u64)]⟩
def Fy:StSh:=⟨(sqs 5 (.int .i64::.slw 0::.int .u64::sqs 34 [])),[some (23,1,.ints .u64)]⟩
end
section
variable (N:Nat) (avo:pU) (auB:mX) (SQ9:lP)
noncomputable abbrev alz:Cx:=⟨Pg,ak [(232,(Fz avo)),(228,(Gn auB)),(207,(FQ9 SQ9))],av,N⟩
def nL:List Atom->K->Bool:=λa_ κ=>match a_ with
 | [.ints x_1,.ints y_1,.int n,.int carry,.int t17,.int t18,.ints z]=>ah N (tc N avo auB SQ9 x_1 y_1 n t17 (λr1 r2=>κ.ext 0 (Fy.build [.int n,.int r1,.ints r2]))) (carry,t18,z)
 | _=>false
def Rq:Nat->Option Ann:=λb_=>cond (b_==0) (some ⟨⟨[0,1,5,6,7,17,18],[],[],[]⟩,[(0,⟨[5,6,7],[],[],[]⟩)],some ⟨[4],[],[],[]⟩,some (aA [(nO,nL N avo auB SQ9)])⟩) (none)
def E5:ax (alz N avo auB SQ9) 0 (Rq N avo auB SQ9) (lp Pg 238 0) (nO,nL N avo auB SQ9):=by
 intro a κ h;simp only at h;unfold nL at h;split at h
 ·rename_i x_1 y_1 n carry t17 t18 z;exact .trans (az (λ(v_:Int × Int × LI)=>nO.build [.ints x_1,.ints y_1,.int n,.int v_.1,.int t17,.int v_.2.1,.ints v_.2.2]) (λv_ K_=>by obtain⟨carry,t18,z⟩:=v_; kernel_rfl) N (carry,t18,z)) h
 ·cases h
def MC:aC (alz N avo auB SQ9) 0 (Rq N avo auB SQ9) (lp Pg 238 0):=
 ar [(nO,nL N avo auB SQ9)] (by kernel_rfl) ⟨E5 _ _ _ _,trivial⟩
def adH (aAt:ab Pg 232 (Fz avo)) (aAw:ab Pg 228 (Gn auB)) (hQ9:ab Pg 207 (FQ9 SQ9)):ab Pg 238 (Y3 (aaw N avo auB SQ9)):=by
 refine glZ N false (Rq N avo auB SQ9) (aa aAt (aa aAw (aa hQ9 (ae _)))) 1 0 (aG (MC _ _ _ _)) ?_;intro a k h;unfold agB at h;split at h;exact⟨[],rfl,rfl,.trans (by kernel_rfl) h⟩;cases h
end
def aiW (N:Nat) (az8:B8) (ax3:Dl) (auz:pK) (axj:B8) (aFu:ab Pg 238 (Y3 az8)) (aC5:ab Pg 185 (Zd ax3)) (aBI:ab Pg 209 (Mh auz)) (aCS:ab Pg 233 (Ue axj)):ab Pg 230 (ahi (an_ N az8 ax3 auz axj)):=by
 refine gfZ N false (aa aFu (aa aC5 (aa aBI (aa aCS (ae _))))) 1 ?_;intro a k h;unfold am6 at h;split at h;exact⟨[_],rfl,rfl,.trans (by kernel_rfl) h⟩;cases h
def ace (N:Nat) (awT:wj) (azy:wj) (av7:B8) (awn:B8) (awl:B8) (aw3:wi) (azb:Ig) (auR:mY) (axw:zf) (aA9:ab Pg 217 (QP awT)) (aEy:ab Pg 217 (Yr azy)) (aBQ:ab Pg 208 (QR av7)) (aBj:ab Pg 229 (NU awn)) (aAv:ab Pg 192 (KP awl)) (aA8:ab Pg 185 (QO aw3)) (aDP:ab Pg 230 (ahi azb)) (azl:ab Pg 187 (G4 auR)) (aBN:ab Pg 191 (WG axw)):ab Pg 212 (Yl (Zr N awT azy av7 awn awl aw3 azb auR axw)):=by
 refine gfZ N false (aa (ms (sh:=ae2) aA9 aEy) (aa aBQ (aa aBj (aa aAv (aa aA8 (aa aDP (aa azl (aa aBN (ae _))))))))) 2 ?_;intro a k h;unfold afj at h;split at h;exact⟨[_,_],rfl,rfl,.trans (by kernel_rfl) h⟩;cases h
def acQ (N:Nat) (azF:Hs) (azs:Hf) (aEJ:ab Pg 213 (Yy azF)) (aEn:ab Pg 212 (Yl azs)):ab Pg 193 (YF (ZR N azF azs)):=by
 refine gfZ N false (aa aEJ (aa aEn (ae _))) 1 ?_;intro a k h;unfold afO at h;split at h;exact⟨[_],rfl,rfl,.trans (by kernel_rfl) h⟩;cases h
def sC (N:Nat) (azM:Hz) (aEQ:ab Pg 193 (YF azM)):ab Pg 160 (cT (jE N azM)):=by
 refine gfZ N true (aa aEQ (ae _)) 0 ?_;intro a k h;unfold m8 at h;split at h;exact⟨[],rfl,rfl,.trans (by kernel_rfl) h⟩;cases h
def adc (N:Nat):ab Pg 214 (YK (Z7 N)):=by
 refine gfZ N false (ae _) 0 ?_;intro a k h;unfold af6 at h;split at h;exact⟨[],rfl,rfl,.trans (by kernel_rfl) h⟩;cases h
def ade (N:Nat) (azS:HG) (aE6:ab Pg 214 (YK azS)):ab Pg 194 (YL (Z8 N azS)):=by
 refine gfZ N false (aa aE6 (ae _)) 0 ?_;intro a k h;unfold af7 at h;split at h;exact⟨[],rfl,rfl,.trans (by kernel_rfl) h⟩;cases h
def sF (N:Nat) (azT:HG) (aE7:ab Pg 194 (YL azT)):ab Pg 161 (cU (jH N azT)):=by
 refine gfV N (aa aE7 (ae _)) 0 ?_;intro a k h;unfold na at h;split at h;exact⟨[],rfl,rfl,.trans (by kernel_rfl) h⟩;cases h
def bF:StSh:=⟨(.any::.ptr 1 0::.int .i64::.any::.any::.int .i64::.int .i64::.any::.any::.int .i64::.int .i64::sqs 16 []),[some (179,1,.recs RT1),some (161,1,.cells [.int .i64,.int .i64,.slw 0])]⟩
def iB:StSh:=⟨(.any::.ptr 1 0::.any::.any::.any::.int .i64::.int .i64::sqs 20 []),[some (179,1,.recs RT1),some (161,1,.cells [.int .i64,.int .i64,.slw 0])]⟩
section
variable (N:Nat) (at5:aJ) (at7:ba) (at6:HG) (at8:aR)
noncomputable abbrev Ll:Cx:=⟨Pg,ak [(159,(bL at5)),(160,(cT at7)),(161,(cU at6)),(131,(cY at8))],av,N⟩
def cF:List Atom->K->Bool:=λa_ κ=>match a_ with
 | [.int i,.int aBz,.int awO,.int t9,.int t10,.recs t5_ awU,.int g_3,.int g_4]=>RT.cast RT1 t5_ awU (λawU=>ah N (cd N at5 at7 at6 at8 i aBz awO t9 awU g_3 g_4 (κ.ext 2 (iB.build [.int aBz,.int awO,.recs RT1 awU,.int g_3,.int g_4]))) t10) false
 | _=>false
def bE:StSh:=⟨(.any::.ptr 1 0::.any::.any::.any::.int .i64::.int .i64::sqs 20 []),[some (179,1,.recs RT1),some (161,1,.cells [.int .i64,.int .i64,.slw 0])]⟩
def iA:StSh:=⟨(sqs 27 []),[some (179,1,.recs RT1)]⟩
def cE:List Atom->K->Bool:=λa_ κ=>match a_ with
 | [.int t5,.int t6,.recs t2_ b0,.int g,.int g_2]=>RT.cast RT1 t2_ b0 (λb0=>ah N (cb N at5 at7 at6 at8 t5 b0 g g_2 (κ.ext 0 (iA.build [.recs RT1 b0]))) t6) false
 | _=>false
def aK:Nat->Option Ann:=λb_=>cond (b_==2) (some ⟨⟨[1,2,5,6,9,10],[],[],[]⟩,[(2,⟨[1,5,6],[],[],[]⟩)],some ⟨[],[],[],[]⟩,some (aA [(bF,cF N at5 at7 at6 at8)])⟩) (cond (b_==0) (some ⟨⟨[1,5,6],[],[],[]⟩,[(0,⟨[],[],[],[]⟩)],some ⟨[],[],[],[]⟩,some (aA [(bE,cE N at5 at7 at6 at8)])⟩) (none))
def nq (κ:K) (i aBz awO t9 t10:Int) (awU:List RY1) (g_3 g_4:Int):rU N (λs k=>cZ (Ll N at5 at7 at6 at8) 1 (aK N at5 at7 at6 at8) (lp Pg 133 1).2 (lp Pg 133 1).1 s (kH Pg 1 ((aK N at5 at7 at6 at8) (lp Pg 133 1).1) κ k)) (bF.build [.int i,.int aBz,.int awO,.int t9,.int t10,.recs RT1 awU,.int g_3,.int g_4])=ah N (cd N at5 at7 at6 at8 i aBz awO t9 awU g_3 g_4 (κ.ext 2 (iB.build [.int aBz,.int awO,.recs RT1 awU,.int g_3,.int g_4]))) t10:=
 az (λv_=>bF.build [.int i,.int aBz,.int awO,.int t9,.int v_,.recs RT1 awU,.int g_3,.int g_4]) (λv_ K_=>by kernel_rfl) N t10
def ng:ax (Ll N at5 at7 at6 at8) 1 (aK N at5 at7 at6 at8) (lp Pg 133 1) (bF,cF N at5 at7 at6 at8):=by
 intro a κ h;simp only at h;unfold cF at h;split at h
 ·obtain⟨e_,h⟩:=RT.cast_inv h (by decide); subst e_; exact(nq _ _ _ _ _ _ _ _ _ _ _ _ _ _).trans h
 ·cases h
def np (κ:K) (t5 t6:Int) (b0:List RY1) (g g_2:Int):rU N (λs k=>cZ (Ll N at5 at7 at6 at8) 1 (aK N at5 at7 at6 at8) (lp Pg 133 0).2 (lp Pg 133 0).1 s (kH Pg 1 ((aK N at5 at7 at6 at8) (lp Pg 133 0).1) κ k)) (bE.build [.int t5,.int t6,.recs RT1 b0,.int g,.int g_2])=ah N (cb N at5 at7 at6 at8 t5 b0 g g_2 (κ.ext 0 (iA.build [.recs RT1 b0]))) t6:=
 az (λv_=>bE.build [.int t5,.int v_,.recs RT1 b0,.int g,.int g_2]) (λv_ K_=>by kernel_rfl) N t6
def ne:ax (Ll N at5 at7 at6 at8) 1 (aK N at5 at7 at6 at8) (lp Pg 133 0) (bE,cE N at5 at7 at6 at8):=by
 intro a κ h;simp only at h;unfold cE at h;split at h
 ·obtain⟨e_,h⟩:=RT.cast_inv h (by decide); subst e_; exact(np _ _ _ _ _ _ _ _ _ _ _).trans h
 ·cases h
def oK:aC (Ll N at5 at7 at6 at8) 1 (aK N at5 at7 at6 at8) (lp Pg 133 1):=
 ar [(bF,cF N at5 at7 at6 at8)] (by kernel_rfl) ⟨ng _ _ _ _ _,trivial⟩
def oJ:aC (Ll N at5 at7 at6 at8) 1 (aK N at5 at7 at6 at8) (lp Pg 133 0):=
 ar [(bE,cE N at5 at7 at6 at8)] (by kernel_rfl) ⟨ne _ _ _ _ _,trivial⟩
def oC (avA:ab Pg 159 (bL at5)) (awj:ab Pg 160 (cT at7)) (awk:ab Pg 161 (cU at6)) (avI:ab Pg 131 (cY at8)):ab Pg 133 (gY (gZ N at5 at7 at6 at8)):=by
 refine glV N (aK N at5 at7 at6 at8) (aa avA (aa awj (aa awk (aa avI (ae _))))) 2 1 (gJ (oJ _ _ _ _ _) (oK _ _ _ _ _)) ?_;intro a k h;unfold kg at h;split at h
 ·obtain⟨e_,h⟩:=RT.cast_inv h (by decide); subst e_; exact⟨[_],rfl,rfl,.trans (by kernel_rfl) h⟩
 ·cases h
end
def ads (N:Nat) (avN:xj) (awM:Dc) (aCL:ab Pg 155 (NR avN)) (aDE:ab Pg 156 (Y7 awM)):ab Pg 198 (YS (aak N avN awM)):=by
 refine gfZ N false (aa aCL (aa aDE (ae _))) 0 ?_;intro a k h;unfold agl at h;split at h;exact⟨[],rfl,rfl,.trans (by kernel_rfl) h⟩;cases h
def A5 (N:Nat) (azY:HO) (aFg:ab Pg 198 (YS azY)):ab Pg 163 (mm (pR N azY)):=by
 refine gfZ N true (aa aFg (ae _)) 0 ?_;intro a k h;unfold vA at h;split at h;exact⟨[],rfl,rfl,.trans (by kernel_rfl) h⟩;cases h
def aiK (N:Nat) (av7:B8) (awn:B8) (awl:B8) (axw:zf) (aBQ:ab Pg 208 (QR av7)) (aBj:ab Pg 229 (NU awn)) (aAv:ab Pg 192 (KP awl)) (aBN:ab Pg 191 (WG axw)):ab Pg 216 (ahd (an2 N av7 awn awl axw)):=by
 refine gfZ N false (aa aBQ (aa aBj (aa aAv (aa aBN (ae _))))) 1 ?_;intro a k h;unfold amU at h;split at h;exact⟨[_],rfl,rfl,.trans (by kernel_rfl) h⟩;cases h
def acP (N:Nat) (awT:wj) (aza:Ih) (aA9:ab Pg 217 (QP awT)) (aDM:ab Pg 216 (ahd aza)):ab Pg 199 (YE (ZQ N awT aza)):=by
 refine gfZ N false (aa aA9 (aa aDM (ae _))) 1 ?_;intro a k h;unfold afN at h;split at h;exact⟨[_],rfl,rfl,.trans (by kernel_rfl) h⟩;cases h
def sD (N:Nat) (azL:Hz) (aEP:ab Pg 199 (YE azL)):ab Pg 164 (gO (jF N azL)):=by
 refine gfZ N true (aa aEP (ae _)) 0 ?_;intro a k h;unfold m9 at h;split at h;exact⟨[],rfl,rfl,.trans (by kernel_rfl) h⟩;cases h
def acO (N:Nat) (awT:wj) (aza:Ih) (aA9:ab Pg 217 (QP awT)) (aDM:ab Pg 216 (ahd aza)):ab Pg 215 (YD (ZP N awT aza)):=by
 refine gfZ N false (aa aA9 (aa aDM (ae _))) 1 ?_;intro a k h;unfold afM at h;split at h;exact⟨[_],rfl,rfl,.trans (by kernel_rfl) h⟩;cases h
def rC (N:Nat) (azK:Hz) (aEO:ab Pg 215 (YD azK)):ab Pg 197 (gq (ji N azK)):=by
 refine gfZ N true (aa aEO (ae _)) 0 ?_;intro a k h;unfold me at h;split at h;exact⟨[],rfl,rfl,.trans (by kernel_rfl) h⟩;cases h
def acD (N:Nat) (awT:wj) (av7:B8) (awn:B8) (awl:B8) (aw3:wi) (azb:Ig) (auR:mY) (axw:zf) (aA9:ab Pg 217 (QP awT)) (aBQ:ab Pg 208 (QR av7)) (aBj:ab Pg 229 (NU awn)) (aAv:ab Pg 192 (KP awl)) (aA8:ab Pg 185 (QO aw3)) (aDP:ab Pg 230 (ahi azb)) (azl:ab Pg 187 (G4 auR)) (aBN:ab Pg 191 (WG axw)):ab Pg 212 (Yw (Uu N awT av7 awn awl aw3 azb auR axw)):=by
 refine gfZ N false (aa aA9 (aa aBQ (aa aBj (aa aAv (aa aA8 (aa aDP (aa azl (aa aBN (ae _))))))))) 1 ?_;intro a k h;unfold afC at h;split at h;exact⟨[_],rfl,rfl,.trans (by kernel_rfl) h⟩;cases h
def sE (N:Nat) (azD:Hz) (aEG:ab Pg 212 (Yw azD)):ab Pg 196 (gP (jG N azD)):=by
 refine gfZ N true (aa aEG (ae _)) 0 ?_;intro a k h;unfold m_ at h;split at h;exact⟨[],rfl,rfl,.trans (by kernel_rfl) h⟩;cases h
def tY (N:Nat):ab Pg 195 (ib (ka N)):=by
 refine gfV N (ae _) 1 ?_;intro a k h;unfold nE at h;split at h
 ·obtain⟨e_,h⟩:=RT.cast_inv h (by decide); subst e_; exact⟨[_],rfl,rfl,.trans (by kernel_rfl) h⟩
 ·cases h
def cI:StSh:=⟨(.any::.int .i64::.int .i64::.any::.ptr 1 0::.any::.any::.ptr 2 0::.any::.any::.int .i64::.int .i64::sqs 18 []),[some (179,1,.recs RT1),some (161,1,.cells [.int .i64,.int .i64,.slw 0]),some (179,1,.cells [.rp [.bool,.roi .u64,.bool,.roi .u64] 0])]⟩
def kh:StSh:=⟨(sqs 30 []),[some (179,1,.recs RT1)]⟩
section
variable (N:Nat) (at5:aJ) (aud:ba) (auf:ba) (aui:cW)
noncomputable abbrev abj:Cx:=⟨Pg,ak [(159,(bL at5)),(197,(gq aud)),(196,(gP auf)),(195,(ib aui))],av,N⟩
def dZ:List Atom->K->Bool:=λa_ κ=>match a_ with
 | [.int i_1,.int ayM,.int t10,.int t11,.recs t4_ b0,.int g,.int g_2,.bool x,.ints x_4,.bool x_5,.ints x_6]=>RT.cast RT1 t4_ b0 (λb0=>ah N (dD N at5 aud auf aui i_1 ayM t10 g g_2 x x_4 x_5 x_6 (λr0=>κ.ext 0 (kh.build [.recs RT1 r0]))) (t11,b0)) false
 | _=>false
def eD:Nat->Option Ann:=λb_=>cond (b_==0) (some ⟨⟨[1,2,4,7,10,11],[],[],[]⟩,[(0,⟨[],[],[],[]⟩)],some ⟨[],[],[],[]⟩,some (aA [(cI,dZ N at5 aud auf aui)])⟩) (none)
def qO (κ:K) (i_1 ayM t10 t11:Int) (b0:List RY1) (g g_2:Int) (x:Bool) (x_4:LI) (x_5:Bool) (x_6:LI):rU N (λs k=>cZ (abj N at5 aud auf aui) 1 (eD N at5 aud auf aui) (lp Pg 162 0).2 (lp Pg 162 0).1 s (kH Pg 1 ((eD N at5 aud auf aui) (lp Pg 162 0).1) κ k)) (cI.build [.int i_1,.int ayM,.int t10,.int t11,.recs RT1 b0,.int g,.int g_2,.bool x,.ints x_4,.bool x_5,.ints x_6])=ah N (dD N at5 aud auf aui i_1 ayM t10 g g_2 x x_4 x_5 x_6 (λr0=>κ.ext 0 (kh.build [.recs RT1 r0]))) (t11,b0):=
 az (λ(v_:Int × List RY1)=>cI.build [.int i_1,.int ayM,.int t10,.int v_.1,.recs RT1 v_.2,.int g,.int g_2,.bool x,.ints x_4,.bool x_5,.ints x_6]) (λv_ K_=>by obtain⟨t11,b0⟩:=v_; kernel_rfl) N (t11,b0)
def qg:ax (abj N at5 aud auf aui) 1 (eD N at5 aud auf aui) (lp Pg 162 0) (cI,dZ N at5 aud auf aui):=by
 intro a κ h;simp only at h;unfold dZ at h;split at h
 ·obtain⟨e_,h⟩:=RT.cast_inv h (by decide); subst e_; exact(qO _ _ _ _ _ _ _ _ _ _ _ _ _ _ _ _ _).trans h
 ·cases h
def um:aC (abj N at5 aud auf aui) 1 (eD N at5 aud auf aui) (lp Pg 162 0):=
 ar [(cI,dZ N at5 aud auf aui)] (by kernel_rfl) ⟨qg _ _ _ _ _,trivial⟩
def tW (avA:ab Pg 159 (bL at5)) (axD:ab Pg 197 (gq aud)) (axO:ab Pg 196 (gP auf)) (ax6:ab Pg 195 (ib aui)):ab Pg 162 (ia (j9 N at5 aud auf aui)):=by
 refine glV N (eD N at5 aud auf aui) (aa avA (aa axD (aa axO (aa ax6 (ae _))))) 1 1 (aG (um _ _ _ _ _)) ?_;intro a k h;unfold nC at h;split at h
 ·obtain⟨e_,h⟩:=RT.cast_inv h (by decide); subst e_; exact⟨[_],rfl,rfl,.trans (by kernel_rfl) h⟩
 ·cases h
end
def bK:StSh:=⟨(.any::.ptr 1 0::.any::.int .i64::.int .i64::.ptr 2 0::.int .i64::.any::.any::.int .i64::.int .i64::sqs 43 []),[some (179,1,.recs RT1),some (161,1,.cells [.int .i64,.int .i64,.slw 0]),some (179,1,.cells [.rp [.bool,.roi .u64,.bool,.roi .u64] 0])]⟩
def iQ:StSh:=⟨(.any::.any::.int .i64::sqs 51 []),[some (179,1,.recs RT1)]⟩
def iS:StSh:=⟨(.any::.ptr 1 0::.any::.int .i64::.any::.ptr 2 0::.any::.any::.any::.int .i64::.int .i64::sqs 43 []),[some (179,1,.recs RT1),some (161,1,.cells [.int .i64,.int .i64,.slw 0]),some (179,1,.cells [.rp [.bool,.roi .u64,.bool,.roi .u64] 0])]⟩
section
variable (N:Nat) (at5:aJ) (at6:HG) (aug:ie) (aub:ba) (at7:ba) (auc:cW)
noncomputable abbrev Lm:Cx:=⟨Pg,ak [(159,(bL at5)),(161,(cU at6)),(163,(mm aug)),(164,(gO aub)),(160,(cT at7)),(162,(ia auc))],av,N⟩
def cP:List Atom->K->Bool:=λa_ κ=>match a_ with
 | [.int s_1,.int k_,.int i,.int aBC,.int axJ,.recs t5_ awU,.int g_3,.int g_4,.bool p,.ints p_1,.bool p_2,.ints p_3]=>RT.cast RT1 t5_ awU (λawU=>ah N (aE N at5 at6 aug aub at7 auc s_1 k_ aBC axJ g_3 g_4 p p_1 p_2 p_3 (λr0 r1=>κ.ret (iQ.build [.int r0,.recs RT1 r1])) (λr3=>κ.ext 2 (iS.build [.int s_1,.int aBC,.int axJ,.recs RT1 r3,.int g_3,.int g_4,.bool p,.ints p_1,.bool p_2,.ints p_3]))) (i,awU)) false
 | _=>false
def bJ:StSh:=⟨(.any::.ptr 1 0::.any::.int .i64::sqs 5 (.int .i64::.int .i64::sqs 43 [])),[some (179,1,.recs RT1),some (161,1,.cells [.int .i64,.int .i64,.slw 0])]⟩
def iP:StSh:=⟨(.any::.any::.int .i64::sqs 51 []),[some (179,1,.recs RT1)]⟩
def iR:StSh:=⟨(.any::.any::.any::.int .i64::sqs 50 []),[some (179,1,.recs RT1)]⟩
def cO:List Atom->K->Bool:=λa_ κ=>match a_ with
 | [.int s,.int t9,.int t10,.recs t3_ b0,.int g,.int g_2]=>RT.cast RT1 t3_ b0 (λb0=>ah N (aO N at5 at6 aug aub at7 auc t9 g g_2 (λr0 r1=>κ.ret (iP.build [.int r0,.recs RT1 r1])) (λr0 r1=>κ.ext 0 (iR.build [.int r0,.recs RT1 r1]))) (s,t10,b0)) false
 | _=>false
def aL:Nat->Option Ann:=λb_=>cond (b_==2) (some ⟨⟨[1,3,4,5,6,9,10],[],[],[]⟩,[(2,⟨[1,3,5,9,10],[],[],[]⟩)],some ⟨[2],[],[],[]⟩,some (aA [(bK,cP N at5 at6 aug aub at7 auc)])⟩) (cond (b_==0) (some ⟨⟨[1,3,9,10],[],[],[]⟩,[(0,⟨[3],[],[],[]⟩)],some ⟨[2],[],[],[]⟩,some (aA [(bJ,cO N at5 at6 aug aub at7 auc)])⟩) (none))
def nW (κ:K) (s_1 k_ i aBC axJ:Int) (awU:List RY1) (g_3 g_4:Int) (p:Bool) (p_1:LI) (p_2:Bool) (p_3:LI):rU N (λs k=>cZ (Lm N at5 at6 aug aub at7 auc) 1 (aL N at5 at6 aug aub at7 auc) (lp Pg 134 1).2 (lp Pg 134 1).1 s (kH Pg 1 ((aL N at5 at6 aug aub at7 auc) (lp Pg 134 1).1) κ k)) (bK.build [.int s_1,.int k_,.int i,.int aBC,.int axJ,.recs RT1 awU,.int g_3,.int g_4,.bool p,.ints p_1,.bool p_2,.ints p_3])=ah N (aE N at5 at6 aug aub at7 auc s_1 k_ aBC axJ g_3 g_4 p p_1 p_2 p_3 (λr0 r1=>κ.ret (iQ.build [.int r0,.recs RT1 r1])) (λr3=>κ.ext 2 (iS.build [.int s_1,.int aBC,.int axJ,.recs RT1 r3,.int g_3,.int g_4,.bool p,.ints p_1,.bool p_2,.ints p_3]))) (i,awU):=
 az (λ(v_:Int × List RY1)=>bK.build [.int s_1,.int k_,.int v_.1,.int aBC,.int axJ,.recs RT1 v_.2,.int g_3,.int g_4,.bool p,.ints p_1,.bool p_2,.ints p_3]) (λv_ K_=>by obtain⟨i,awU⟩:=v_; kernel_rfl) N (i,awU)
def nz:ax (Lm N at5 at6 aug aub at7 auc) 1 (aL N at5 at6 aug aub at7 auc) (lp Pg 134 1) (bK,cP N at5 at6 aug aub at7 auc):=by
 intro a κ h;simp only at h;unfold cP at h;split at h
 ·obtain⟨e_,h⟩:=RT.cast_inv h (by decide); subst e_; exact(nW _ _ _ _ _ _ _ _ _ _ _ _ _ _ _ _ _ _ _ _).trans h
 ·cases h
def nV (κ:K) (s t9 t10:Int) (b0:List RY1) (g g_2:Int):rU N (λs k=>cZ (Lm N at5 at6 aug aub at7 auc) 1 (aL N at5 at6 aug aub at7 auc) (lp Pg 134 0).2 (lp Pg 134 0).1 s (kH Pg 1 ((aL N at5 at6 aug aub at7 auc) (lp Pg 134 0).1) κ k)) (bJ.build [.int s,.int t9,.int t10,.recs RT1 b0,.int g,.int g_2])=ah N (aO N at5 at6 aug aub at7 auc t9 g g_2 (λr0 r1=>κ.ret (iP.build [.int r0,.recs RT1 r1])) (λr0 r1=>κ.ext 0 (iR.build [.int r0,.recs RT1 r1]))) (s,t10,b0):=
 az (λ(v_:Int × Int × List RY1)=>bJ.build [.int v_.1,.int t9,.int v_.2.1,.recs RT1 v_.2.2,.int g,.int g_2]) (λv_ K_=>by obtain⟨s,t10,b0⟩:=v_; kernel_rfl) N (s,t10,b0)
def ny:ax (Lm N at5 at6 aug aub at7 auc) 1 (aL N at5 at6 aug aub at7 auc) (lp Pg 134 0) (bJ,cO N at5 at6 aug aub at7 auc):=by
 intro a κ h;simp only at h;unfold cO at h;split at h
 ·obtain⟨e_,h⟩:=RT.cast_inv h (by decide); subst e_; exact(nV _ _ _ _ _ _ _ _ _ _ _ _ _ _).trans h
 ·cases h
def pE:aC (Lm N at5 at6 aug aub at7 auc) 1 (aL N at5 at6 aug aub at7 auc) (lp Pg 134 1):=
 ar [(bK,cP N at5 at6 aug aub at7 auc)] (by kernel_rfl) ⟨nz _ _ _ _ _ _ _,trivial⟩
def pD:aC (Lm N at5 at6 aug aub at7 auc) 1 (aL N at5 at6 aug aub at7 auc) (lp Pg 134 0):=
 ar [(bJ,cO N at5 at6 aug aub at7 auc)] (by kernel_rfl) ⟨ny _ _ _ _ _ _ _,trivial⟩
def pu (avA:ab Pg 159 (bL at5)) (awk:ab Pg 161 (cU at6)) (azn:ab Pg 163 (mm aug)) (axN:ab Pg 164 (gO aub)) (awj:ab Pg 160 (cT at7)) (ax5:ab Pg 162 (ia auc)):ab Pg 134 (ip (iq N at5 at6 aug aub at7 auc)):=by
 refine glV N (aL N at5 at6 aug aub at7 auc) (aa avA (aa awk (aa azn (aa axN (aa awj (aa ax5 (ae _))))))) 2 1 (gJ (pD _ _ _ _ _ _ _) (pE _ _ _ _ _ _ _)) ?_;intro a k h;unfold kp at h;split at h
 ·obtain⟨e_,h⟩:=RT.cast_inv h (by decide); subst e_; exact⟨[_],rfl,rfl,.trans (by kernel_rfl) h⟩
 ·cases h
end
def sB (N:Nat) (at8:aR) (auH:cz) (auM:cH) (avI:ab Pg 131 (cY at8)) (axk:ab Pg 133 (gY auH)) (axn:ab Pg 134 (ip auM)):ab Pg 118 (gN (jD N at8 auH auM)):=by
 refine gfV N (aa avI (aa axk (aa axn (ae _)))) 1 ?_;intro a k h;unfold mZ at h;split at h
 ·obtain⟨e_,h⟩:=RT.cast_inv h (by decide); subst e_; exact⟨[_],rfl,rfl,.trans (by kernel_rfl) h⟩
 ·cases h
def A0 (N:Nat) (auQ:fp) (auw:cH):Nat->Option Ann:=λb_=>none
def yF (N:Nat) (auQ:fp) (auw:cH) (ayD:ab Pg 117 (jL auQ)) (axM:ab Pg 118 (gN auw)):ab Pg 100 (nT (kw N auQ auw)):=by
 refine adM (md:=none) (cx:=⟨Pg,ak [(117,(jL auQ)),(118,(gN auw))],av,N⟩) (gT (aa ayD (aa axM (ae _))) (by kernel_rfl)) hD_ ri (nh (kw N auQ auw)) (A0 N auQ auw) 0 0 (by kernel_rfl) (λi_ hi_=>by omega) ?_;intro a k h;unfold nh at h;split at h;exact⟨[],rfl,rfl,.trans (by kernel_rfl) h⟩;cases h
def zB (N:Nat) (avp:ix) (ayK:ab Pg 100 (nT avp)):ab Pg 73 (jl (om N avp)):=by
 refine gfV N (aa ayK (ae _)) 0 ?_;intro a k h;unfold uC at h;split at h;exact⟨[],rfl,rfl,.trans (by kernel_rfl) h⟩;cases h
def DB (N:Nat) (avF:wh) (ay_:H_) (axe:FB) (auU:FB) (aBK:ab Pg 71 (N0 avF)) (aDG:ab Pg 72 (WD ay_)) (aDI:ab Pg 58 (Y_ axe)) (aw9:ab Pg 73 (jl auU)):ab Pg 32 (j8 (tG N avF ay_ axe auU)):=by
 refine gfV N (aa aBK (aa aDG (aa aDI (aa aw9 (ae _))))) 0 ?_;intro a k h;unfold yA at h;split at h;exact⟨[],rfl,rfl,.trans (by kernel_rfl) h⟩;cases h
def adx (N:Nat):ab Pg 101 (YW (aan N)):=by
 refine gfV N (ae _) 0 ?_;intro a k h;unfold agp at h;split at h;exact⟨[],rfl,rfl,.trans (by kernel_rfl) h⟩;cases h
def adq (N:Nat) (aw2:EM) (aBl:ab Pg 40 (Ul aw2)):ab Pg 102 (Uh (aaj N aw2)):=by
 refine gfV N (aa aBl (ae _)) 0 ?_;intro a k h;unfold agj at h;split at h;exact⟨[],rfl,rfl,.trans (by kernel_rfl) h⟩;cases h
def acZ (N:Nat) (axH:EM) (aCT:ab Pg 102 (Uh axH)):ab Pg 94 (NT (ZY N axH)):=by
 refine gfV N (aa aCT (ae _)) 0 ?_;intro a k h;unfold afV at h;split at h;exact⟨[],rfl,rfl,.trans (by kernel_rfl) h⟩;cases h
def adg (N:Nat):ab Pg 95 (YM (Z_ N)):=by
 refine gfV N (ae _) 0 ?_;intro a k h;unfold af9 at h;split at h;exact⟨[],rfl,rfl,.trans (by kernel_rfl) h⟩;cases h
def adw (N:Nat) (avO:xk) (azU:Cc) (aCQ:ab Pg 94 (NT avO)) (aE8:ab Pg 95 (YM azU)):ab Pg 69 (YV (aam N avO azU)):=by
 refine gfV N (aa aCQ (aa aE8 (ae _))) 0 ?_;intro a k h;unfold ago at h;split at h;exact⟨[],rfl,rfl,.trans (by kernel_rfl) h⟩;cases h
def ah0 (N:Nat) (az1:EM) (aFm:ab Pg 69 (YV az1)):ab Pg 29 (WB (anq N az1)):=by
 refine gfV N (aa aFm (ae _)) 0 ?_;intro a k h;unfold amf at h;split at h;exact⟨[],rfl,rfl,.trans (by kernel_rfl) h⟩;cases h
def du:StSh:=⟨(sqs 5 (.rof::.int .i64::.int .i64::sqs 7 [])),[]⟩
def pj:StSh:=⟨(.any::.any::.bool::sqs 12 []),[]⟩
def pp:StSh:=⟨(sqs 15 []),[]⟩
section
variable (N:Nat) (axq:FA)
def dj:List Atom->K->Bool:=λa_ κ=>match a_ with
 | [.fls t5,.int t6,.int t7]=>ah N (NA N axq t5 t6 (λr0=>κ.ret (pj.build [.bool r0])) (κ.ext 0 (pp.build []))) t7
 | _=>false
def Q7:Nat->Option Ann:=λb_=>cond (b_==0) (some ⟨⟨[5,6,7],[],[],[]⟩,[(0,⟨[],[],[],[]⟩)],some ⟨[2],[],[],[]⟩,some (aA [(du,dj N axq)])⟩) (none)
def oE:ax ⟨Pg,ak [(29,(WB axq))],av,N⟩ 0 (Q7 N axq) (lp Pg 78 0) (du,dj N axq):=by
 intro a κ h;simp only at h;unfold dj at h;split at h
 ·rename_i t5 t6 t7;exact .trans (az (λv_=>du.build [.fls t5,.int t6,.int v_]) (λv_ K_=>by kernel_rfl) N t7) h
 ·cases h
def rO:aC ⟨Pg,ak [(29,(WB axq))],av,N⟩ 0 (Q7 N axq) (lp Pg 78 0):=
 ar [(du,dj N axq)] (by kernel_rfl) ⟨oE _ _,trivial⟩
def ab5 (aDD:ab Pg 29 (WB axq)):ab Pg 78 (TJ (Zk N axq)):=by
 refine glV N (Q7 N axq) (aa aDD (ae _)) 1 0 (aG (rO _ _)) ?_;intro a k h;unfold afa at h;split at h;exact⟨[],rfl,rfl,.trans (by kernel_rfl) h⟩;cases h
end
def acV (N:Nat) (az2:Cc) (axV:H_) (aFn:ab Pg 101 (YW az2)) (aCE:ab Pg 78 (TJ axV)):ab Pg 84 (NS (ZW N az2 axV)):=by
 refine gfV N (aa aFn (aa aCE (ae _))) 0 ?_;intro a k h;unfold afS at h;split at h;exact⟨[],rfl,rfl,.trans (by kernel_rfl) h⟩;cases h
def adr (N:Nat) (avW:wh) (aCO:ab Pg 84 (NS avW)):ab Pg 83 (Ui (UA N avW)):=by
 refine gfV N (aa aCO (ae _)) 0 ?_;intro a k h;unfold agk at h;split at h;exact⟨[],rfl,rfl,.trans (by kernel_rfl) h⟩;cases h
def aiz (N:Nat):ab Pg 55 (G6 (anU N)):=by
 refine gfV N (ae _) 0 ?_;intro a k h;unfold amK at h;split at h;exact⟨[],rfl,rfl,.trans (by kernel_rfl) h⟩;cases h
def ac9 (N:Nat) (axH:EM) (aCT:ab Pg 102 (Uh axH)):ab Pg 85 (T_ (Z4 N axH)):=by
 refine gfV N (aa aCT (ae _)) 0 ?_;intro a k h;unfold af2 at h;split at h;exact⟨[],rfl,rfl,.trans (by kernel_rfl) h⟩;cases h
def dx:StSh:=⟨(.any::.ptr 0 0::.any::.any::.int .i64::.int .i64::sqs 31 []),[some (28,1,.cells [.int .i64,.int .i64,.rof])]⟩
def pm:StSh:=⟨(.any::.any::.int .i64::sqs 34 []),[]⟩
def pr:StSh:=⟨(.any::.ptr 0 0::.any::.any::.int .i64::sqs 32 []),[some (28,1,.cells [.int .i64,.int .i64,.rof])]⟩
section
variable (N:Nat) (avW:wh) (auP:EC) (awg:EL)
noncomputable abbrev UP:Cx:=⟨Pg,ak [(84,(NS avW)),(55,(G6 auP)),(85,(T_ awg))],av,N⟩
def dm:List Atom->K->Bool:=λa_ κ=>match a_ with
 | [.int i_1,.int j,.int m_5,.int m_6,.fls m_7]=>ah N (NC N avW auP awg i_1 m_5 m_6 m_7 (λr0=>κ.ret (pm.build [.int r0])) (κ.ext 2 (pr.build [.int i_1,.int m_5,.int m_6,.fls m_7]))) j
 | _=>false
def dw:StSh:=⟨(.any::.ptr 0 0::.any::.any::.int .i64::sqs 32 []),[some (28,1,.cells [.int .i64,.int .i64,.rof])]⟩
def pk:StSh:=⟨(.any::.any::.int .i64::sqs 34 []),[]⟩
def pq:StSh:=⟨(sqs 37 []),[]⟩
def dk:List Atom->K->Bool:=λa_ κ=>match a_ with
 | [.int i,.int m,.int m_3,.fls m_4]=>ah N (NB N avW auP awg m m_3 m_4 (λr0=>κ.ret (pk.build [.int r0])) (κ.ext 0 (pq.build []))) i
 | _=>false
def Oq:Nat->Option Ann:=λb_=>cond (b_==2) (some ⟨⟨[1,4,5],[],[],[]⟩,[(2,⟨[1,4],[],[],[]⟩)],some ⟨[2],[],[],[]⟩,some (aA [(dx,dm N avW auP awg)])⟩) (cond (b_==0) (some ⟨⟨[1,4],[],[],[]⟩,[(0,⟨[],[],[],[]⟩)],some ⟨[2],[],[],[]⟩,some (aA [(dw,dk N avW auP awg)])⟩) (none))
def oG:ax (UP N avW auP awg) 0 (Oq N avW auP awg) (lp Pg 49 1) (dx,dm N avW auP awg):=by
 intro a κ h;simp only at h;unfold dm at h;split at h
 ·rename_i i_1 j m_5 m_6 m_7;exact .trans (az (λv_=>dx.build [.int i_1,.int v_,.int m_5,.int m_6,.fls m_7]) (λv_ K_=>by kernel_rfl) N j) h
 ·cases h
def oF:ax (UP N avW auP awg) 0 (Oq N avW auP awg) (lp Pg 49 0) (dw,dk N avW auP awg):=by
 intro a κ h;simp only at h;unfold dk at h;split at h
 ·rename_i i m m_3 m_4;exact .trans (az (λv_=>dw.build [.int v_,.int m,.int m_3,.fls m_4]) (λv_ K_=>by kernel_rfl) N i) h
 ·cases h
def rQ:aC (UP N avW auP awg) 0 (Oq N avW auP awg) (lp Pg 49 1):=
 ar [(dx,dm N avW auP awg)] (by kernel_rfl) ⟨oG _ _ _ _,trivial⟩
def rP:aC (UP N avW auP awg) 0 (Oq N avW auP awg) (lp Pg 49 0):=
 ar [(dw,dk N avW auP awg)] (by kernel_rfl) ⟨oF _ _ _ _,trivial⟩
def aiq (aCO:ab Pg 84 (NS avW)) (aBO:ab Pg 55 (G6 auP)) (aE3:ab Pg 85 (T_ awg)):ab Pg 49 (Y8 (anN N avW auP awg)):=by
 refine glV N (Oq N avW auP awg) (aa aCO (aa aBO (aa aE3 (ae _)))) 2 0 (gJ (rP _ _ _ _) (rQ _ _ _ _)) ?_;intro a k h;unfold amD at h;split at h;exact⟨[],rfl,rfl,.trans (by kernel_rfl) h⟩;cases h
end
def adA (N:Nat) (ax1:wh) (axV:H_) (av_:wh) (aCU:ab Pg 83 (Ui ax1)) (aCE:ab Pg 78 (TJ axV)) (aDH:ab Pg 49 (Y8 av_)):ab Pg 66 (YZ (aaq N ax1 axV av_)):=by
 refine gfV N (aa aCU (aa aCE (aa aDH (ae _)))) 0 ?_;intro a k h;unfold ags at h;split at h;exact⟨[],rfl,rfl,.trans (by kernel_rfl) h⟩;cases h
def gC:StSh:=⟨(.int .u64::.int .i64::sqs 15 []),[]⟩
def uJ:StSh:=⟨(.int .u64::.int .i64::sqs 15 []),[]⟩
def gu (N:Nat):List Atom->K->Bool:=λa_ κ=>match a_ with
 | [.int m_1,.int e_1]=>ah N (pe N (λr0 r1=>κ.ext 0 (uJ.build [.int r0,.int r1]))) (m_1,e_1)
 | _=>false
def Rl (N:Nat):Nat->Option Ann:=λb_=>cond (b_==0) (some ⟨⟨[0,1],[],[],[]⟩,[(0,⟨[0,1],[],[],[]⟩)],some ⟨[4,5],[],[],[]⟩,some (aA [(gC,gu N)])⟩) (none)
def t_ (N:Nat):ax ⟨Pg,ak [],av,N⟩ 0 (Rl N) (lp Pg 201 0) (gC,gu N):=by
 intro a κ h;simp only at h;unfold gu at h;split at h
 ·rename_i m_1 e_1;exact .trans (az (λ(v_:Int × Int)=>gC.build [.int v_.1,.int v_.2]) (λv_ K_=>by obtain⟨m_1,e_1⟩:=v_; kernel_rfl) N (m_1,e_1)) h
 ·cases h
def xL (N:Nat):aC ⟨Pg,ak [],av,N⟩ 0 (Rl N) (lp Pg 201 0):=
 ar [(gC,gu N)] (by kernel_rfl) ⟨t_ _,trivial⟩
def adv (N:Nat):ab Pg 201 (Uk (UB N)):=by
 refine glV N (Rl N) (ae _) 1 0 (aG (xL _)) ?_;intro a k h;unfold agn at h;split at h;exact⟨[],rfl,rfl,.trans (by kernel_rfl) h⟩;cases h
section
variable (N:Nat) (avO:xk) (awi:zg)
noncomputable abbrev OX:Cx:=⟨Pg,ak [(94,(NT avO)),(201,(Uk awi))],av,N⟩
def Iz (N:Nat) (avO:xk) (awi:zg):Nat->Option Ann:=λb_=>none
def SA (d_:List V) (u_:List (Option Blk)) (x:Fl) (neg:Bool) (e f:Int):St:=⟨((dq d_ 0)::(dq d_ 1)::.ptr 0 0::(dq d_ 2)::.bool neg::vwi e::vwu f::dqs d_ 3 28 []),[some ⟨198,1,.cells [.bool false,vwu 0,vwi 0]⟩]⟩
def apb (d_:List V) (u_:List (Option Blk)) (x:Fl) (neg:Bool) (e f:Int) (c_:KV):aU (OX N avO awi) 0 (Iz N avO awi) ((cds Pg 170).drop 6) 0 (SA d_ u_ x neg e f) (Cu Pg 170 0 c_)=Ob N avO awi x neg e f (λr0 r1 r2 r3=>c_ (.tup [.agg [.bool r0,vwu r1,vwi r2],vwi r3]) []):=by kernel_rfl
def I_ (x:Fl) (c_:KV) (κn_:St->Bool):aU (OX N avO awi) 0 (Iz N avO awi) (sg Pg 170 0 6) 0 (st0 Pg 170 (Ej.args [.fl x]) []) { (Cu Pg 170 0 c_)with nrm:=κn_ } = (avO x (λcr nr aur=>cond (nr==2047) (c_ (.tup [.agg [.bool false,vwu 0,vwi 0],vwi 4]) []) (cond (decide (nr>0)) (aj .i64 (nr - 1)&&κn_ (SA (.flt x::.any::vwi 0::.any::.any::.tup [.bool cr,vwi nr,vwu aur]::.flt x::.tup [.bool cr,vwi nr,vwu aur]::.bool cr::vwi nr::vwu aur::vwi nr::.bool false::.any::vwi nr::.bool true::vwu aur::vwu (IntKind.wrap .u64 (aur+4503599627370496))::vwi nr::vwi (nr - 1)::vqs 11 []) [] x cr (nr - 1) (IntKind.wrap .u64 (aur+4503599627370496)))) (κn_ (SA (.flt x::.any::vwi 0::.any::.any::.tup [.bool cr,vwi nr,vwu aur]::.flt x::.tup [.bool cr,vwi nr,vwu aur]::.bool cr::vwi nr::vwu aur::vwi nr::.bool false::.any::vwi nr::.bool false::vqs 15 []) [] x cr nr aur))))):=by kernel_rfl
def Jk (x:Fl) (c_:KV):aU (OX N avO awi) 0 (Iz N avO awi) ((cds Pg 170).drop 0) 0 (st0 Pg 170 (Ej.args [.fl x]) []) (Cu Pg 170 0 c_)=K0 N avO awi x (λr0 r1 r2 r3=>c_ (.tup [.agg [.bool r0,vwu r1,vwi r2],vwi r3]) []):=by rw[dC 0 6 6 rfl];refine(I_ N avO awi x c_ _).trans ?_;simp only[apb];kernel_rfl
def aou (x:Fl) (c_:KV):ov (OX N avO awi) (Iz N avO awi) 170 (Ej.args [.fl x]) [] c_=K0 N avO awi x (λr0 r1 r2 r3=>c_ (.tup [.agg [.bool r0,vwu r1,vwi r2],vwi r3]) []):=
 (qL (by kernel_rfl)).trans (Jk N avO awi x c_)
def adt (aCQ:ab Pg 94 (NT avO)) (aFl:ab Pg 201 (Uk awi)):ab Pg 170 (YT (K0 N avO awi)):=by
 refine jN (cx:=(OX N avO awi)) (gT (aa aCQ (aa aFl (ae _))) (by kernel_rfl)) Ej (TA (K0 N avO awi)) (Iz N avO awi) 0 0 (by kernel_rfl) (λi_ hi_=>by omega) ?_;intro a k h;unfold TA at h;split at h;exact⟨[],rfl,rfl,(aou _ _ _ _ _).trans h⟩;cases h
def fH:StSh:=⟨(.sl 0::sqs 20 []),[some (195,1,.ints .u32)]⟩
def rX:StSh:=⟨(.sl 0::sqs 20 []),[some (195,1,.ints .u32)]⟩
end
def fv (N:Nat):List Atom->K->Bool:=λa_ κ=>match a_ with
 | [.nat m_1,.nat m_2,.ints m_3]=>ah N (C0 N m_1 m_3 (λr1=>κ.ext 0 (rX.build [.nat m_1,.nat r1,.ints m_3]))) m_2
 | _=>false
def aoj (N:Nat):Nat->Option Ann:=λb_=>cond (b_==0) (some ⟨⟨[0],[(0,some 0,0)],[],[]⟩,[(0,⟨[0],[],[],[]⟩)],some ⟨[2],[],[],[]⟩,some (aA [(fH,fv N)])⟩) (none)
def rE (N:Nat):ax ⟨Pg,ak [],av,N⟩ 1 (aoj N) (lp Pg 150 0) (fH,fv N):=by
 intro a κ h;simp only at h;unfold fv at h;split at h
 ·rename_i m_1 m_2 m_3;exact .trans (az (λv_=>fH.build [.nat m_1,.nat v_,.ints m_3]) (λv_ K_=>by kernel_rfl) N m_2) h
 ·cases h
def vN (N:Nat):aC ⟨Pg,ak [],av,N⟩ 1 (aoj N) (lp Pg 150 0):=
 ar [(fH,fv N)] (by kernel_rfl) ⟨rE _,trivial⟩
def aoN (N:Nat):ab Pg 150 (FQ8 (GQ8 N)):=by
 refine glZ N false (aoj N) (ae _) 1 1 (aG (vN _)) ?_;intro a k h;unfold as4 at h;split at h;exact⟨[_],rfl,rfl,.trans (by kernel_rfl) h⟩;cases h
def acH (N:Nat) (SQ8:lP) (hQ8:ab Pg 150 (FQ8 SQ8)):ab Pg 202 (KR (ZJ N SQ8)):=by
 refine gfZ N false (aa hQ8 (ae _)) 0 ?_;intro a k h;unfold afG at h;split at h;exact⟨[],rfl,rfl,.trans (by kernel_rfl) h⟩;cases h
def gB:StSh:=⟨(.roi .u32::sqs 20 []),[]⟩
def uI:StSh:=⟨(.roi .u32::sqs 20 []),[]⟩
def gr (N:Nat):List Atom->K->Bool:=λa_ κ=>match a_ with
 | [.ints m_1]=>ah N (kR N (λr0=>κ.ext 0 (uI.build [.ints r0]))) m_1
 | _=>false
def Ri (N:Nat):Nat->Option Ann:=λb_=>cond (b_==0) (some ⟨⟨[0],[],[],[]⟩,[(0,⟨[0],[],[],[]⟩)],some ⟨[2],[],[],[]⟩,some (aA [(gB,gr N)])⟩) (none)
def tZ (N:Nat):ax ⟨Pg,ak [],av,N⟩ 0 (Ri N) (lp Pg 150 0) (gB,gr N):=by
 intro a κ h;simp only at h;unfold gr at h;split at h
 ·rename_i m_1;exact .trans (az (λv_=>gB.build [.ints v_]) (λv_ K_=>by kernel_rfl) N m_1) h
 ·cases h
def xK (N:Nat):aC ⟨Pg,ak [],av,N⟩ 0 (Ri N) (lp Pg 150 0):=
 ar [(gB,gr N)] (by kernel_rfl) ⟨tZ _,trivial⟩
def ada (N:Nat):ab Pg 150 (KS (Z5 N)):=by
 refine glZ N false (Ri N) (ae _) 1 0 (aG (xK _)) ?_;intro a k h;unfold af4 at h;split at h;exact⟨[],rfl,rfl,.trans (by kernel_rfl) h⟩;cases h
def acb (N:Nat) (awH:mY) (aAx:ab Pg 150 (KS awH)):ab Pg 140 (G0 (Zp N awH)):=by
 refine gfZ N false (aa aAx (ae _)) 1 ?_;intro a k h;unfold afh at h;split at h;exact⟨[_],rfl,rfl,.trans (by kernel_rfl) h⟩;cases h
def acG (N:Nat) (avE:sj) (avq:pV) (aBi:ab Pg 202 (KR avE)) (aAu:ab Pg 140 (G0 avq)):ab Pg 171 (Yx (ZI N avE avq)):=by
 refine gfZ N false (aa aBi (aa aAu (ae _))) 1 ?_;intro a k h;unfold afF at h;split at h;exact⟨[_],rfl,rfl,.trans (by kernel_rfl) h⟩;cases h
def adh (N:Nat) (SQ8:lP) (hQ8:ab Pg 150 (FQ8 SQ8)):ab Pg 140 (YN (aaa N SQ8)):=by
 refine gfZ N false (aa hQ8 (ae _)) 2 ?_;intro a k h;unfold af_ at h;split at h;exact⟨[_,_],rfl,rfl,.trans (by kernel_rfl) h⟩;cases h
def adb (N:Nat) (azV:HJ) (aE9:ab Pg 140 (YN azV)):ab Pg 172 (YJ (Z6 N azV)):=by
 refine gfZ N false (aa aE9 (ae _)) 1 ?_;intro a k h;unfold af5 at h;split at h;exact⟨[_],rfl,rfl,.trans (by kernel_rfl) h⟩;cases h
def adK (N:Nat) (azZ:B9) (azE:Ie) (azR:Im) (aFi:ab Pg 170 (YT azZ)) (aEI:ab Pg 171 (Yx azE)) (aE5:ab Pg 172 (YJ azR)):ab Pg 139 (Y6 (aaz N azZ azE azR)):=by
 refine gfV N (aa aFi (aa aEI (aa aE5 (ae _)))) 0 ?_;intro a k h;unfold agE at h;split at h;exact⟨[],rfl,rfl,.trans (by kernel_rfl) h⟩;cases h
def f_:StSh:=⟨(.roi .u32::sqs 4 (.int .i64::.int .u64::.slw 0::.int .i64::sqs 49 [])),[some (195,1,.ints .u32)]⟩
def tg:StSh:=⟨(sqs 7 (.slw 0::sqs 50 [])),[some (195,1,.ints .u32)]⟩
section
variable (N:Nat) (SQ8:lP)
def fT:List Atom->K->Bool:=λa_ κ=>match a_ with
 | [.ints m_1,.int w,.int s,.int i,.ints out]=>ah N (C2 N SQ8 m_1 w s (λr0=>κ.ext 0 (tg.build [.ints r0]))) (i,out)
 | _=>false
def Ro:Nat->Option Ann:=λb_=>cond (b_==0) (some ⟨⟨[0,5,6,7,8],[],[],[]⟩,[(0,⟨[7],[],[],[]⟩)],some ⟨[4],[],[],[]⟩,some (aA [(f_,fT N SQ8)])⟩) (none)
def sJ:ax ⟨Pg,ak [(150,(FQ8 SQ8))],av,N⟩ 0 (Ro N SQ8) (lp Pg 181 0) (f_,fT N SQ8):=by
 intro a κ h;simp only at h;unfold fT at h;split at h
 ·rename_i m_1 w s i out;exact .trans (az (λ(v_:Int × LI)=>f_.build [.ints m_1,.int w,.int s,.int v_.1,.ints v_.2]) (λv_ K_=>by obtain⟨i,out⟩:=v_; kernel_rfl) N (i,out)) h
 ·cases h
def wO:aC ⟨Pg,ak [(150,(FQ8 SQ8))],av,N⟩ 0 (Ro N SQ8) (lp Pg 181 0):=
 ar [(f_,fT N SQ8)] (by kernel_rfl) ⟨sJ _ _,trivial⟩
def adD (hQ8:ab Pg 150 (FQ8 SQ8)):ab Pg 181 (Y1 (aas N SQ8)):=by
 refine glZ N false (Ro N SQ8) (aa hQ8 (ae _)) 1 0 (aG (wO _ _)) ?_;intro a k h;unfold agx at h;split at h;exact⟨[],rfl,rfl,.trans (by kernel_rfl) h⟩;cases h
end
def acC (N:Nat) (az6:HY) (avq:pV) (aFs:ab Pg 181 (Y1 az6)) (aAu:ab Pg 140 (G0 avq)):ab Pg 168 (TX (ZG N az6 avq)):=by
 refine gfZ N false (aa aFs (aa aAu (ae _))) 2 ?_;intro a k h;unfold afB at h;split at h;exact⟨[_,_],rfl,rfl,.trans (by kernel_rfl) h⟩;cases h
def acl (N:Nat) (axX:Ii) (aCJ:ab Pg 168 (TX axX)):ab Pg 166 (Yn (Zw N axX)):=by
 refine gfV N (aa aCJ (ae _)) 1 ?_;intro a k h;unfold afp at h;split at h;exact⟨[_],rfl,rfl,.trans (by kernel_rfl) h⟩;cases h
def ach (N:Nat):ab Pg 143 (C9 (N3 N)):=by
 refine gfZ N false (ae _) 0 ?_;intro a k h;unfold afm at h;split at h;exact⟨[],rfl,rfl,.trans (by kernel_rfl) h⟩;cases h
def acq (N:Nat) (awH:mY) (aAx:ab Pg 150 (KS awH)):ab Pg 140 (TS (Ut N awH)):=by
 refine gfZ N false (aa aAx (ae _)) 1 ?_;intro a k h;unfold afs at h;split at h;exact⟨[_],rfl,rfl,.trans (by kernel_rfl) h⟩;cases h
def aiL (N:Nat) (awH:mY) (aAx:ab Pg 150 (KS awH)):ab Pg 140 (WH (WK N awH)):=by
 refine gfZ N false (aa aAx (ae _)) 1 ?_;intro a k h;unfold amV at h;split at h;exact⟨[_],rfl,rfl,.trans (by kernel_rfl) h⟩;cases h
def aaS (N:Nat):Nat->Option Ann:=λb_=>none
def aqV (N:Nat) (x:Int) (c_:KV):ov ⟨Pg,ak [],av,N⟩ (aaS N) 174 (Nc.args [.int x]) [] c_=aaC N x (λr0=>c_ (vwi r0) []):=by
 have key:∀ L_:Int,aU ⟨Pg,ak [],av,N⟩ 0 (aaS N) (((cds Pg 174).drop 0).map (QA 125613361 L_)) 0 (st0 Pg 174 (Nc.args [.int x]) []) (Cu Pg 174 0 c_)=(λ(k0:Kz1)=>cond (x==0) (k0 32) (inR (Int.fdiv (IntKind.wrap .u32 ((aF .and .u32 x (IntKind.wrap .u32 (0 - x)))*L_)) (2 ^ 27)) 32&&(aj .i64 (Gk.getD (Int.toNat (Int.fdiv (IntKind.wrap .u32 ((aF .and .u32 x (IntKind.wrap .u32 (0 - x)))*L_)) (2 ^ 27))) 0)&&k0 (Gk.getD (Int.toNat (Int.fdiv (IntKind.wrap .u32 ((aF .and .u32 x (IntKind.wrap .u32 (0 - x)))*L_)) (2 ^ 27))) 0)))) (λr0=>c_ (vwi r0) []):=λL_=>by kernel_rfl
 have hc:(cds Pg 174).drop 0=((cds Pg 174).drop 0).map (QA 125613361 125613361):=by kernel_rfl
 refine(qL (by kernel_rfl)).trans ?_;rw[hc];exact key 125613361
def air (N:Nat):ab Pg 174 (Y9 (aaC N)):=by
 refine jN (cx:=⟨Pg,ak [],av,N⟩) (gT (ae _) (by kernel_rfl)) Nc (agK (aaC N)) (aaS N) 0 0 (by kernel_rfl) (λi_ hi_=>by omega) ?_;intro a k h;unfold agK at h;split at h;exact⟨[],rfl,rfl,(aqV _ _ _).trans h⟩;cases h
def bf:StSh:=⟨(.ptr 0 0::.any::.any::.int .i64::sqs 29 []),[some (151,1,.cells [.bool,.roi .u32])]⟩
def jB:StSh:=⟨(.any::.any::.int .u64::sqs 30 []),[some (151,1,.cells [.bool,.roi .u32])]⟩
def jC:StSh:=⟨(sqs 33 []),[some (151,1,.cells [.bool,.roi .u32])]⟩
section
variable (N:Nat) (ax_:Ib)
def be:List Atom->K->Bool:=λa_ κ=>match a_ with
 | [.int i,.bool z,.ints z_1]=>ah N (Nw N ax_ z z_1 (λr0=>κ.ret (jB.build [.int r0,.bool z,.ints z_1])) (κ.ext 0 (jC.build [.bool z,.ints z_1]))) i
 | _=>false
def aaM:Nat->Option Ann:=λb_=>cond (b_==0) (some ⟨⟨[0,3],[],[],[]⟩,[(0,⟨[],[],[],[]⟩)],some ⟨[2],[],[],[]⟩,some (aA [(bf,be N ax_)])⟩) (none)
def js:ax ⟨Pg,ak [(174,(Y9 ax_))],av,N⟩ 1 (aaM N ax_) (lp Pg 144 0) (bf,be N ax_):=by
 intro a κ h;simp only at h;unfold be at h;split at h
 ·rename_i i z z_1;exact .trans (az (λv_=>bf.build [.int v_,.bool z,.ints z_1]) (λv_ K_=>by kernel_rfl) N i) h
 ·cases h
def ki:aC ⟨Pg,ak [(174,(Y9 ax_))],av,N⟩ 1 (aaM N ax_) (lp Pg 144 0):=
 ar [(bf,be N ax_)] (by kernel_rfl) ⟨js _ _,trivial⟩
def ahV (aF7:ab Pg 174 (Y9 ax_)):ab Pg 144 (WA (anl N ax_)):=by
 refine glZ N false (aaM N ax_) (aa aF7 (ae _)) 1 1 (aG (ki _ _)) ?_;intro a k h;unfold al_ at h;split at h;exact⟨[_],rfl,rfl,.trans (by kernel_rfl) h⟩;cases h
def fJ:StSh:=⟨(.roi .u32::sqs 4 (.int .i64::.int .u64::.slw 0::.int .i64::sqs 55 [])),[some (195,1,.ints .u32)]⟩
def rZ:StSh:=⟨(sqs 7 (.slw 0::sqs 56 [])),[some (195,1,.ints .u32)]⟩
end
section
variable (N:Nat) (SQ8:lP)
def fz:List Atom->K->Bool:=λa_ κ=>match a_ with
 | [.ints m_1,.int w,.int s,.int i,.ints out]=>ah N (NJ N SQ8 m_1 w s (λr0=>κ.ext 0 (rZ.build [.ints r0]))) (i,out)
 | _=>false
def aaX:Nat->Option Ann:=λb_=>cond (b_==0) (some ⟨⟨[0,5,6,7,8],[],[],[]⟩,[(0,⟨[7],[],[],[]⟩)],some ⟨[4],[],[],[]⟩,some (aA [(fJ,fz N SQ8)])⟩) (none)
def rG:ax ⟨Pg,ak [(150,(FQ8 SQ8))],av,N⟩ 0 (aaX N SQ8) (lp Pg 145 0) (fJ,fz N SQ8):=by
 intro a κ h;simp only at h;unfold fz at h;split at h
 ·rename_i m_1 w s i out;exact .trans (az (λ(v_:Int × LI)=>fJ.build [.ints m_1,.int w,.int s,.int v_.1,.ints v_.2]) (λv_ K_=>by obtain⟨i,out⟩:=v_; kernel_rfl) N (i,out)) h
 ·cases h
def vP:aC ⟨Pg,ak [(150,(FQ8 SQ8))],av,N⟩ 0 (aaX N SQ8) (lp Pg 145 0):=
 ar [(fJ,fz N SQ8)] (by kernel_rfl) ⟨rG _ _,trivial⟩
def aiN (hQ8:ab Pg 150 (FQ8 SQ8)):ab Pg 145 (Mj (an3 N SQ8)):=by
 refine glZ N false (aaX N SQ8) (aa hQ8 (ae _)) 1 0 (aG (vP _ _)) ?_;intro a k h;unfold amX at h;split at h;exact⟨[],rfl,rfl,.trans (by kernel_rfl) h⟩;cases h
end
def acR (N:Nat):ab Pg 175 (TZ (ZS N)):=by
 refine gfV N (ae _) 0 ?_;intro a k h;unfold afP at h;split at h;exact⟨[],rfl,rfl,.trans (by kernel_rfl) h⟩;cases h
def ah4 (N:Nat) (axY:Ib) (aCM:ab Pg 175 (TZ axY)):ab Pg 146 (NY (anu N axY)):=by
 refine gfZ N false (aa aCM (ae _)) 1 ?_;intro a k h;unfold amj at h;split at h;exact⟨[_],rfl,rfl,.trans (by kernel_rfl) h⟩;cases h
def d8:StSh:=⟨(.roi .u32::.roi .u32::.any::.any::.any::.int .i64::sqs 35 []),[]⟩
def qp:StSh:=⟨(sqs 4 (.int .i64::sqs 36 [])),[]⟩
def qx:StSh:=⟨(sqs 41 []),[]⟩
def dR (N:Nat):List Atom->K->Bool:=λa_ κ=>match a_ with
 | [.ints a_1,.ints b_1,.int i]=>ah N (CW N a_1 b_1 (λr0=>κ.ret (qp.build [.int r0])) (κ.ext 0 (qx.build []))) i
 | _=>false
def aaL (N:Nat):Nat->Option Ann:=λb_=>cond (b_==0) (some ⟨⟨[0,1,5],[],[],[]⟩,[(0,⟨[],[],[],[]⟩)],some ⟨[4],[],[],[]⟩,some (aA [(d8,dR N)])⟩) (none)
def p7 (N:Nat):ax ⟨Pg,ak [],av,N⟩ 0 (aaL N) (lp Pg 148 0) (d8,dR N):=by
 intro a κ h;simp only at h;unfold dR at h;split at h
 ·rename_i a_1 b_1 i;exact .trans (az (λv_=>d8.build [.ints a_1,.ints b_1,.int v_]) (λv_ K_=>by kernel_rfl) N i) h
 ·cases h
def ue (N:Nat):aC ⟨Pg,ak [],av,N⟩ 0 (aaL N) (lp Pg 148 0):=
 ar [(d8,dR N)] (by kernel_rfl) ⟨p7 _,trivial⟩
def ahU (N:Nat):ab Pg 148 (G2 (ank N)):=by
 refine glZ N false (aaL N) (ae _) 1 0 (aG (ue _)) ?_;intro a k h;unfold al9 at h;split at h;exact⟨[],rfl,rfl,.trans (by kernel_rfl) h⟩;cases h
def f9:StSh:=⟨(sqs 5 (.roi .u32::.int .u64::.int .i64::sqs 20 [])),[]⟩
def tf:StSh:=⟨(sqs 6 (.int .u64::sqs 21 [])),[]⟩
section
variable (N:Nat) (auY:HY)
def fS:List Atom->K->Bool:=λa_ κ=>match a_ with
 | [.ints x,.int u,.int i]=>ah N (qH N auY x (λr0=>κ.ext 0 (tf.build [.int r0]))) (u,i)
 | _=>false
def Rf:Nat->Option Ann:=λb_=>cond (b_==0) (some ⟨⟨[5,6,7],[],[],[]⟩,[(0,⟨[6],[],[],[]⟩)],some ⟨[4],[],[],[]⟩,some (aA [(f9,fS N auY)])⟩) (none)
def sI:ax ⟨Pg,ak [(145,(Mj auY))],av,N⟩ 0 (Rf N auY) (lp Pg 177 0) (f9,fS N auY):=by
 intro a κ h;simp only at h;unfold fS at h;split at h
 ·rename_i x u i;exact .trans (az (λ(v_:Int × Int)=>f9.build [.ints x,.int v_.1,.int v_.2]) (λv_ K_=>by obtain⟨u,i⟩:=v_; kernel_rfl) N (u,i)) h
 ·cases h
def wN:aC ⟨Pg,ak [(145,(Mj auY))],av,N⟩ 0 (Rf N auY) (lp Pg 177 0):=
 ar [(f9,fS N auY)] (by kernel_rfl) ⟨sI _ _,trivial⟩
def acU (aC4:ab Pg 145 (Mj auY)):ab Pg 177 (T2 (ZV N auY)):=by
 refine glZ N false (Rf N auY) (aa aC4 (ae _)) 1 0 (aG (wN _ _)) ?_;intro a k h;unfold afR at h;split at h;exact⟨[],rfl,rfl,.trans (by kernel_rfl) h⟩;cases h
def fL:StSh:=⟨(sqs 8 (.int .i64::.int .i64::.int .i64::.int .i64::.int .i64::.int .i64::sqs 71 [])),[]⟩
def sa:StSh:=⟨(sqs 8 (.int .i64::.int .i64::.int .i64::.int .i64::sqs 73 [])),[]⟩
end
def fB (N:Nat):List Atom->K->Bool:=λa_ κ=>match a_ with
 | [.int a,.int b,.int c,.int d,.int p,.int q]=>ah N (qn N (λr0 r1 r2 r3=>κ.ext 0 (sa.build [.int r0,.int r1,.int r2,.int r3]))) (a,b,c,d,p,q)
 | _=>false
def Rd (N:Nat):Nat->Option Ann:=λb_=>cond (b_==0) (some ⟨⟨[8,9,10,11,12,13],[],[],[]⟩,[(0,⟨[8,9,10,11],[],[],[]⟩)],some ⟨[4,5,6,7],[],[],[]⟩,some (aA [(fL,fB N)])⟩) (none)
def rI (N:Nat):ax ⟨Pg,ak [],av,N⟩ 0 (Rd N) (lp Pg 176 0) (fL,fB N):=by
 intro a κ h;simp only at h;unfold fB at h;split at h
 ·rename_i a b c d p q;exact .trans (az (λ(v_:Int × Int × Int × Int × Int × Int)=>fL.build [.int v_.1,.int v_.2.1,.int v_.2.2.1,.int v_.2.2.2.1,.int v_.2.2.2.2.1,.int v_.2.2.2.2.2]) (λv_ K_=>by obtain⟨a,b,c,d,p,q⟩:=v_; kernel_rfl) N (a,b,c,d,p,q)) h
 ·cases h
def vR (N:Nat):aC ⟨Pg,ak [],av,N⟩ 0 (Rd N) (lp Pg 176 0):=
 ar [(fL,fB N)] (by kernel_rfl) ⟨rI _,trivial⟩
def acB (N:Nat):ab Pg 176 (TW (ZF N)):=by
 refine glZ N false (Rd N) (ae _) 1 0 (aG (vR _)) ?_;intro a k h;unfold afA at h;split at h;exact⟨[],rfl,rfl,.trans (by kernel_rfl) h⟩;cases h
def fK:StSh:=⟨(.roi .u32::.int .u32::sqs 4 (.slw 0::.int .u64::.int .i64::sqs 35 [])),[some (195,1,.ints .u32)]⟩
def r_:StSh:=⟨(sqs 6 (.slw 0::.int .u64::sqs 36 [])),[some (195,1,.ints .u32)]⟩
section
variable (N:Nat) (SQ8:lP)
def fA:List Atom->K->Bool:=λa_ κ=>match a_ with
 | [.ints m_1,.int d_1,.int r,.int i,.ints out]=>ah N (pb N SQ8 m_1 d_1 (λr0 r1=>κ.ext 0 (r_.build [.int r0,.ints r1]))) (r,i,out)
 | _=>false
def aa1:Nat->Option Ann:=λb_=>cond (b_==0) (some ⟨⟨[0,1,6,7,8],[],[],[]⟩,[(0,⟨[6,7],[],[],[]⟩)],some ⟨[4,5],[],[],[]⟩,some (aA [(fK,fA N SQ8)])⟩) (none)
def rH:ax ⟨Pg,ak [(150,(FQ8 SQ8))],av,N⟩ 0 (aa1 N SQ8) (lp Pg 179 0) (fK,fA N SQ8):=by
 intro a κ h;simp only at h;unfold fA at h;split at h
 ·rename_i m_1 d_1 r i out;exact .trans (az (λ(v_:Int × Int × LI)=>fK.build [.ints m_1,.int d_1,.int v_.1,.int v_.2.1,.ints v_.2.2]) (λv_ K_=>by obtain⟨r,i,out⟩:=v_; kernel_rfl) N (r,i,out)) h
 ·cases h
def vQ:aC ⟨Pg,ak [(150,(FQ8 SQ8))],av,N⟩ 0 (aa1 N SQ8) (lp Pg 179 0):=
 ar [(fK,fA N SQ8)] (by kernel_rfl) ⟨rH _ _,trivial⟩
def aiZ (hQ8:ab Pg 150 (FQ8 SQ8)):ab Pg 179 (ahl (aoc N SQ8)):=by
 refine glZ N false (aa1 N SQ8) (aa hQ8 (ae _)) 1 0 (aG (vQ _ _)) ?_;intro a k h;unfold am9 at h;split at h;exact⟨[],rfl,rfl,.trans (by kernel_rfl) h⟩;cases h
end
def ahY (N:Nat) (axY:Ib) (aCM:ab Pg 175 (TZ axY)):ab Pg 180 (agT (ano N axY)):=by
 refine gfV N (aa aCM (ae _)) 0 ?_;intro a k h;unfold amd at h;split at h;exact⟨[],rfl,rfl,.trans (by kernel_rfl) h⟩;cases h
def dr:StSh:=⟨(.roi .u32::sqs 4 (.int .i64::.int .u64::.slw 0::.int .i64::sqs 49 [])),[some (195,1,.ints .u32)]⟩
def ph:StSh:=⟨(sqs 7 (.slw 0::sqs 50 [])),[some (195,1,.ints .u32)]⟩
section
variable (N:Nat) (SQ8:lP)
def di:List Atom->K->Bool:=λa_ κ=>match a_ with
 | [.ints m_1,.int w,.int s,.int i,.ints out]=>ah N (uH N SQ8 m_1 w s (λr0=>κ.ext 0 (ph.build [.ints r0]))) (i,out)
 | _=>false
def aaP:Nat->Option Ann:=λb_=>cond (b_==0) (some ⟨⟨[0,5,6,7,8],[],[],[]⟩,[(0,⟨[7],[],[],[]⟩)],some ⟨[4],[],[],[]⟩,some (aA [(dr,di N SQ8)])⟩) (none)
def oD:ax ⟨Pg,ak [(150,(FQ8 SQ8))],av,N⟩ 0 (aaP N SQ8) (lp Pg 181 0) (dr,di N SQ8):=by
 intro a κ h;simp only at h;unfold di at h;split at h
 ·rename_i m_1 w s i out;exact .trans (az (λ(v_:Int × LI)=>dr.build [.ints m_1,.int w,.int s,.int v_.1,.ints v_.2]) (λv_ K_=>by obtain⟨i,out⟩:=v_; kernel_rfl) N (i,out)) h
 ·cases h
def rN:aC ⟨Pg,ak [(150,(FQ8 SQ8))],av,N⟩ 0 (aaP N SQ8) (lp Pg 181 0):=
 ar [(dr,di N SQ8)] (by kernel_rfl) ⟨oD _ _,trivial⟩
def aie (hQ8:ab Pg 150 (FQ8 SQ8)):ab Pg 181 (ag0 (anD N SQ8)):=by
 refine glV N (aaP N SQ8) (aa hQ8 (ae _)) 1 0 (aG (rN _ _)) ?_;intro a k h;unfold ams at h;split at h;exact⟨[],rfl,rfl,.trans (by kernel_rfl) h⟩;cases h
def dK:StSh:=⟨(.sl 0::.sl 1::.int .i64::.int .u64::sqs 5 (.int .u64::.int .u64::.int .i64::sqs 79 [])),[some (195,1,.ints .u32),some (195,1,.ints .u32)]⟩
def pG:StSh:=⟨(.sl 0::.sl 1::.int .i64::sqs 6 (.int .u64::.int .u64::sqs 80 [])),[some (195,1,.ints .u32),some (195,1,.ints .u32)]⟩
end
def dG (N:Nat):List Atom->K->Bool:=λa_ κ=>match a_ with
 | [.nat u,.nat u_2,.nat d,.nat d_2,.int j_1,.int g_1,.int carry,.int borrow,.int i,.ints u_3,.ints d_3]=>ah N (NF N u u_2 d d_2 j_1 g_1 d_3 (λr5 r6 r7=>κ.ext 0 (pG.build [.nat u,.nat u_2,.nat d,.nat d_2,.int j_1,.int r5,.int r6,.ints r7,.ints d_3]))) (carry,borrow,i,u_3)
 | _=>false
def aaQ (N:Nat):Nat->Option Ann:=λb_=>cond (b_==0) (some ⟨⟨[0,1,2,3,9,10,11],[],[],[]⟩,[(0,⟨[0,1,2,9,10],[],[],[]⟩)],some ⟨[8],[],[],[]⟩,some (aA [(dK,dG N)])⟩) (none)
def pw (N:Nat):ax ⟨Pg,ak [],av,N⟩ 2 (aaQ N) (lp Pg 182 0) (dK,dG N):=by
 intro a κ h;simp only at h;unfold dG at h;split at h
 ·rename_i u u_2 d d_2 j_1 g_1 carry borrow i u_3 d_3;exact .trans (az (λ(v_:Int × Int × Int × LI)=>dK.build [.nat u,.nat u_2,.nat d,.nat d_2,.int j_1,.int g_1,.int v_.1,.int v_.2.1,.int v_.2.2.1,.ints v_.2.2.2,.ints d_3]) (λv_ K_=>by obtain⟨carry,borrow,i,u_3⟩:=v_; kernel_rfl) N (carry,borrow,i,u_3)) h
 ·cases h
def sP (N:Nat):aC ⟨Pg,ak [],av,N⟩ 2 (aaQ N) (lp Pg 182 0):=
 ar [(dK,dG N)] (by kernel_rfl) ⟨pw _,trivial⟩
def aik (N:Nat):ab Pg 182 (ag2 (anH N)):=by
 refine glZ N false (aaQ N) (ae _) 1 2 (aG (sP _)) ?_;intro a k h;unfold amx at h;split at h;exact⟨[_,_],rfl,rfl,.trans (by kernel_rfl) h⟩;cases h
def dL:StSh:=⟨(.sl 0::.sl 1::.int .i64::.any::.any::.any::.int .u64::.int .i64::sqs 42 []),[some (195,1,.ints .u32),some (195,1,.ints .u32)]⟩
def pH:StSh:=⟨(.sl 0::.sl 1::.int .i64::.any::.any::.any::.int .u64::sqs 43 []),[some (195,1,.ints .u32),some (195,1,.ints .u32)]⟩
def dH (N:Nat):List Atom->K->Bool:=λa_ κ=>match a_ with
 | [.nat u,.nat u_2,.nat d,.nat d_2,.int j_1,.int carry,.int i,.ints u_3,.ints d_3]=>ah N (NG N u u_2 d d_2 j_1 d_3 (λr5 r6=>κ.ext 0 (pH.build [.nat u,.nat u_2,.nat d,.nat d_2,.int j_1,.int r5,.ints r6,.ints d_3]))) (carry,i,u_3)
 | _=>false
def aaR (N:Nat):Nat->Option Ann:=λb_=>cond (b_==0) (some ⟨⟨[0,1,2,6,7],[],[],[]⟩,[(0,⟨[0,1,2,6],[],[],[]⟩)],some ⟨[],[],[],[]⟩,some (aA [(dL,dH N)])⟩) (none)
def px (N:Nat):ax ⟨Pg,ak [],av,N⟩ 2 (aaR N) (lp Pg 183 0) (dL,dH N):=by
 intro a κ h;simp only at h;unfold dH at h;split at h
 ·rename_i u u_2 d d_2 j_1 carry i u_3 d_3;exact .trans (az (λ(v_:Int × Int × LI)=>dL.build [.nat u,.nat u_2,.nat d,.nat d_2,.int j_1,.int v_.1,.int v_.2.1,.ints v_.2.2,.ints d_3]) (λv_ K_=>by obtain⟨carry,i,u_3⟩:=v_; kernel_rfl) N (carry,i,u_3)) h
 ·cases h
def sQ (N:Nat):aC ⟨Pg,ak [],av,N⟩ 2 (aaR N) (lp Pg 183 0):=
 ar [(dL,dH N)] (by kernel_rfl) ⟨px _,trivial⟩
def ail (N:Nat):ab Pg 183 (ag3 (anI N)):=by
 refine glZ N false (aaR N) (ae _) 1 2 (aG (sQ _)) ?_;intro a k h;unfold amy at h;split at h;exact⟨[_,_],rfl,rfl,.trans (by kernel_rfl) h⟩;cases h
def fG:StSh:=⟨(.sl 0::sqs 20 []),[some (195,1,.ints .u32)]⟩
def rW:StSh:=⟨(.sl 0::sqs 20 []),[some (195,1,.ints .u32)]⟩
def fu (N:Nat):List Atom->K->Bool:=λa_ κ=>match a_ with
 | [.nat m,.nat m_2,.ints m_3]=>ah N (CZ N m m_3 (λr1=>κ.ext 0 (rW.build [.nat m,.nat r1,.ints m_3]))) m_2
 | _=>false
def aa2 (N:Nat):Nat->Option Ann:=λb_=>cond (b_==0) (some ⟨⟨[0],[],[],[]⟩,[(0,⟨[0],[],[],[]⟩)],some ⟨[2],[],[],[]⟩,some (aA [(fG,fu N)])⟩) (none)
def rD (N:Nat):ax ⟨Pg,ak [],av,N⟩ 1 (aa2 N) (lp Pg 150 0) (fG,fu N):=by
 intro a κ h;simp only at h;unfold fu at h;split at h
 ·rename_i m m_2 m_3;exact .trans (az (λv_=>fG.build [.nat m,.nat v_,.ints m_3]) (λv_ K_=>by kernel_rfl) N m_2) h
 ·cases h
def vM (N:Nat):aC ⟨Pg,ak [],av,N⟩ 1 (aa2 N) (lp Pg 150 0):=
 ar [(fG,fu N)] (by kernel_rfl) ⟨rD _,trivial⟩
def ai1 (N:Nat):ab Pg 150 (ahm (aoe N)):=by
 refine glZ N false (aa2 N) (ae _) 1 1 (aG (vM _)) ?_;intro a k h;unfold am_ at h;split at h;exact⟨[_],rfl,rfl,.trans (by kernel_rfl) h⟩;cases h
def d9:StSh:=⟨(.sl 0::sqs 4 (.int .i64::.int .u64::.slw 1::.int .i64::sqs 55 [])),[some (195,1,.ints .u32),some (195,1,.ints .u32)]⟩
def qq:StSh:=⟨(sqs 7 (.slw 1::sqs 56 [])),[some (195,1,.ints .u32),some (195,1,.ints .u32)]⟩
section
variable (N:Nat) (SQ8:lP)
def dS:List Atom->K->Bool:=λa_ κ=>match a_ with
 | [.nat m,.nat m_2,.int w,.int s,.int i,.ints m_3,.ints out]=>ah N (mN N SQ8 m m_2 w s m_3 (λr1=>κ.ext 0 (qq.build [.ints m_3,.ints r1]))) (i,out)
 | _=>false
def aaU:Nat->Option Ann:=λb_=>cond (b_==0) (some ⟨⟨[0,5,6,7,8],[],[],[]⟩,[(0,⟨[7],[],[],[]⟩)],some ⟨[4],[],[],[]⟩,some (aA [(d9,dS N SQ8)])⟩) (none)
def p9:ax ⟨Pg,ak [(150,(FQ8 SQ8))],av,N⟩ 1 (aaU N SQ8) (lp Pg 145 0) (d9,dS N SQ8):=by
 intro a κ h;simp only at h;unfold dS at h;split at h
 ·rename_i m m_2 w s i m_3 out;exact .trans (az (λ(v_:Int × LI)=>d9.build [.nat m,.nat m_2,.int w,.int s,.int v_.1,.ints m_3,.ints v_.2]) (λv_ K_=>by obtain⟨i,out⟩:=v_; kernel_rfl) N (i,out)) h
 ·cases h
def uf:aC ⟨Pg,ak [(150,(FQ8 SQ8))],av,N⟩ 1 (aaU N SQ8) (lp Pg 145 0):=
 ar [(d9,dS N SQ8)] (by kernel_rfl) ⟨p9 _ _,trivial⟩
def aiv (hQ8:ab Pg 150 (FQ8 SQ8)):ab Pg 145 (ag8 (anQ N SQ8)):=by
 refine glZ N false (aaU N SQ8) (aa hQ8 (ae _)) 1 1 (aG (uf _ _)) ?_;intro a k h;unfold amG at h;split at h;exact⟨[_],rfl,rfl,.trans (by kernel_rfl) h⟩;cases h
end
end Go.Proofs.YteifemaagdeomaaGreatDoor
