/-
  THE TIES: each printed meaning is what the program does (written by program).
  Conditions: none.
-/
import Derived.Test.YtldenpmpmifnlaaGreatDoorGs
set_option linter.unusedVariables false
namespace Go.Proofs.YtldenpmpmifnlaaGreatDoor
open Go Go.Mach Go.Proofs
set_option maxRecDepth 50000
def ahy (N:Nat) (am0:q8) (anO:uY):Nat->Option Ann:=λb_=>none
theorem acp (N:Nat) (am0:q8) (anO:uY) (asE:ab Pg 112 (FZ am0)) (aty:ab Pg 105 (I6 anO)):ab Pg 97 (Z0 (aaW N am0 anO)):=by
 refine ao (md:=false) (cx:=⟨Pg,ah [(112,(FZ am0)),(105,(I6 anO))],am,N⟩) (ai (aa asE (aa aty (ac _))) (by kernel_rfl)) Xs (YN (aaW N am0 anO)) (ahy N am0 anO) 0 2 (by kernel_rfl) (λi_ hi_=>by omega) ?_;intro a k h;unfold YN at h;split at h;exact⟨[_,_],rfl,rfl,.trans (by kernel_rfl) h⟩;cases h
def ahS (N:Nat):Nat->Option Ann:=λb_=>none
theorem acX (N:Nat):ab Pg 105 (aaf (abh N)):=by
 refine ao (md:=false) (cx:=⟨Pg,ah [],am,N⟩) (ai (ac _) (by kernel_rfl)) XV (Zc (abh N)) (ahS N) 0 2 (by kernel_rfl) (λi_ hi_=>by omega) ?_;intro a k h;unfold Zc at h;split at h;exact⟨[_,_],rfl,rfl,.trans (by kernel_rfl) h⟩;cases h
def ahW (N:Nat) (amP:tk) (aqU:GD):Nat->Option Ann:=λb_=>none
theorem ac2 (N:Nat) (amP:tk) (aqU:GD) (atu:ab Pg 105 (I2 amP)) (av3:ab Pg 105 (aaf aqU)):ab Pg 111 (aaj (abl N amP aqU)):=by
 refine ao (md:=false) (cx:=⟨Pg,ah [(105,(Cc (I2 amP) (aaf aqU) Fv))],am,N⟩) (ai (aa (qw atu av3) (ac _)) (by kernel_rfl)) XZ (Zg (abl N amP aqU)) (ahW N amP aqU) 0 2 (by kernel_rfl) (λi_ hi_=>by omega) ?_;intro a k h;unfold Zg at h;split at h;exact⟨[_,_],rfl,rfl,.trans (by kernel_rfl) h⟩;cases h
def ahq (N:Nat) (alH:jK) (aqX:GG):Nat->Option Ann:=λb_=>none
theorem acg (N:Nat) (alH:jK) (aqX:GG) (aqH:ab Pg 107 (xV alH)) (av9:ab Pg 111 (aaj aqX)):ab Pg 96 (ZW (aaP N alH aqX)):=by
 refine ao (md:=false) (cx:=⟨Pg,ah [(107,(xV alH)),(111,(aaj aqX))],am,N⟩) (ai (aa aqH (aa av9 (ac _))) (by kernel_rfl)) Xk (YE (aaP N alH aqX)) (ahq N alH aqX) 0 2 (by kernel_rfl) (λi_ hi_=>by omega) ?_;intro a k h;unfold YE at h;split at h;exact⟨[_,_],rfl,rfl,.trans (by kernel_rfl) h⟩;cases h
section
variable (N:Nat) (amW:yM) (ali:aR) (anX:DQ) (anY:DV) (anf:yu) (an6:DT) (SQ7:F2) (an5:DR) (an4:DP)
noncomputable abbrev JU:Cx:=⟨Pg,ah [(90,(OG amW)),(83,(cH ali)),(91,(ZX anX)),(92,(Z6 anY)),(94,(RC anf)),(93,(Z3 an6)),(95,(FQ7 SQ7)),(97,(Z0 an5)),(96,(ZW an4))],am,N⟩
def hJ (N:Nat) (amW:yM) (ali:aR) (anX:DQ) (anY:DV) (anf:yu) (an6:DT) (SQ7:F2) (an5:DR) (an4:DP):Nat->Option Ann:=λb_=>none
def kI (d_:List V) (u_:List (Option Blk)) (x:Fl) (p:Bool) (p_1 p_2:Int) (n:Bool) (n_1:LI):St:=⟨((dq d_ 0)::(dq d_ 1)::.ptr 0 0::.ptr 1 0::(dq d_ 2)::.ptr 2 0::dqs d_ 3 43 []),[some ⟨130,1,.cells [.val (.pointer none)]⟩,some ⟨50,1,.cells [.bool p,vwu p_1,vwi p_2]⟩,some ⟨138,1,.cells [.bool n,vwr n_1]⟩]⟩
theorem vI (d_:List V) (u_:List (Option Blk)) (x:Fl) (p:Bool) (p_1 p_2:Int) (n:Bool) (n_1:LI) (c_:KV):bc (JU N amW ali anX anY anf an6 SQ7 an5 an4) 0 (hJ N amW ali anX anY anf an6 SQ7 an5 an4) ((cds Pg 84).drop 6) 0 (kI d_ u_ x p p_1 p_2 n n_1) (r_ true Pg 84 0 c_)=dC N amW ali anX anY anf an6 SQ7 an5 an4 x p p_1 p_2 n n_1 (λr0 r1 r2 r3=>c_ (.agg [.rp [.bool r0,vwr r1,.bool r2,vwr r3] 0]) []):=by kernel_rfl
theorem vx (x:Fl) (c_:KV) (κn_:St->Bool):bc (JU N amW ali anX anY anf an6 SQ7 an5 an4) 0 (hJ N amW ali anX anY anf an6 SQ7 an5 an4) (sg Pg 84 0 6) 0 (st0 Pg 84 (gC.args [.fl x]) []) { (r_ true Pg 84 0 c_)with nrm:=κn_ } = (amW x (λcr nr aly alQ=>ali (alQ==0) 4 (anX nr false (λalT nsr=>cond cr (anY alT nsr (λamQ alG=>κn_ (kI (.flt x::.any::vwi alQ::.any::.tup [.agg [.bool cr,vwu nr,vwi aly],vwi alQ]::.flt x::.tup [.agg [.bool cr,vwu nr,vwi aly],vwi alQ]::.agg [.bool cr,vwu nr,vwi aly]::vwi alQ::vwi alQ::.bool (alQ==0)::.tup []::.ptr 2 0::.ptr 1 1::vwu nr::.ptr 2 0::.ptr 1 0::.bool true::.ptr 2 0::.ptr 2 0::.ptr 2 0::vqs 25 []) [] x cr nr aly amQ alG))) (κn_ (kI (.flt x::.any::vwi alQ::.any::.tup [.agg [.bool cr,vwu nr,vwi aly],vwi alQ]::.flt x::.tup [.agg [.bool cr,vwu nr,vwi aly],vwi alQ]::.agg [.bool cr,vwu nr,vwi aly]::vwi alQ::vwi alQ::.bool (alQ==0)::.tup []::.ptr 2 0::.ptr 1 1::vwu nr::.ptr 2 0::.ptr 1 0::.bool false::vqs 28 []) [] x cr nr aly alT nsr)))))):=by kernel_rfl
theorem vJ (x:Fl) (c_:KV):bc (JU N amW ali anX anY anf an6 SQ7 an5 an4) 0 (hJ N amW ali anX anY anf an6 SQ7 an5 an4) ((cds Pg 84).drop 0) 0 (st0 Pg 84 (gC.args [.fl x]) []) (r_ true Pg 84 0 c_)=fK N amW ali anX anY anf an6 SQ7 an5 an4 x (λr0 r1 r2 r3=>c_ (.agg [.rp [.bool r0,vwr r1,.bool r2,vwr r3] 0]) []):=by rw[eD 0 6 6 rfl];refine(vx N amW ali anX anY anf an6 SQ7 an5 an4 x c_ _).trans ?_;simp only[vI];kernel_rfl
theorem xX (x:Fl) (c_:KV):vW true (JU N amW ali anX anY anf an6 SQ7 an5 an4) (hJ N amW ali anX anY anf an6 SQ7 an5 an4) 84 (gC.args [.fl x]) [] c_=fK N amW ali anX anY anf an6 SQ7 an5 an4 x (λr0 r1 r2 r3=>c_ (.agg [.rp [.bool r0,vwr r1,.bool r2,vwr r3] 0]) []):=
 (nl (by kernel_rfl)).trans (vJ N amW ali anX anY anf an6 SQ7 an5 an4 x c_)
theorem vu (auZ:ab Pg 90 (OG amW)) (amm:ab Pg 83 (cH ali)) (avD:ab Pg 91 (ZX anX)) (avP:ab Pg 92 (Z6 anY)) (auf:ab Pg 94 (RC anf)) (avL:ab Pg 93 (Z3 an6)) (hQ7:ab Pg 95 (FQ7 SQ7)) (avH:ab Pg 97 (Z0 an5)) (avC:ab Pg 96 (ZW an4)):ab Pg 84 (j5 (fK N amW ali anX anY anf an6 SQ7 an5 an4)):=by
 refine ao (md:=true) (cx:=(JU N amW ali anX anY anf an6 SQ7 an5 an4)) (ai (aa auZ (aa amm (aa avD (aa avP (aa auf (aa avL (aa hQ7 (aa avH (aa avC (ac _)))))))))) (by kernel_rfl)) gC (mv (fK N amW ali anX anY anf an6 SQ7 an5 an4)) (hJ N amW ali anX anY anf an6 SQ7 an5 an4) 0 0 (by kernel_rfl) (λi_ hi_=>by omega) ?_;intro a k h;unfold mv at h;split at h;exact⟨[],rfl,rfl,(xX _ _ _ _ _ _ _ _ _ _ _ _).trans h⟩;cases h
def dM:StSh:=⟨(.any::.any::.ptr 0 0::.any::.ptr 1 0::sqs 14 (.rof::.int .i64::.int .i64::sqs 12 [])),[some (119,1,.cells [.int .i64,.int .i64,.nil]),some (119,1,.cells [.int .i64,.int .i64,.slw 2]),some (130,1,.recs RT0)]⟩
def lK:StSh:=⟨(.any::.any::.ptr 0 0::.any::.ptr 1 0::sqs 29 []),[some (119,1,.cells [.int .i64,.int .i64,.nil]),some (119,1,.cells [.int .i64,.int .i64,.slw 2]),some (130,1,.recs RT0)]⟩
end
section
variable (N:Nat) (ame:uW) (ali:aR) (alw:ft)
noncomputable abbrev PM:Cx:=⟨Pg,ah [(38,(I4 ame)),(83,(cH ali)),(84,(j5 alw))],am,N⟩
def fG:List Atom->K->Bool:=λa_ κ=>match a_ with
 | [.fls aqO,.int arm,.int anx,.int asi,.int asj,.int g_2,.int g_3,.recs t7_ b2]=>RT.cast RT0 t7_ b2 (λb2=>al N (fo N ame ali alw aqO arm asi asj g_2 g_3 (λr4=>κ.ext 0 (lK.build [.int asi,.int asj,.int g_2,.int g_3,.recs RT0 r4]))) (anx,b2)) false
 | _=>false
def gv:Nat->Option Ann:=λb_=>cond (b_==0) (some ⟨⟨[2,4,19,20,21],[(4,some 2,260)],[],[]⟩,[(0,⟨[2,4],[],[],[]⟩)],some ⟨[2],[],[],[]⟩,some (aF [(dM,fG N ame ali alw)])⟩) (none)
theorem rZ (κ:K) (aqO:LF) (arm anx asi asj g_2 g_3:Int) (b2:List RY0):vG N (λs k=>eC (PM N ame ali alw) 0 (gv N ame ali alw) (lp Pg 78 0).2 (lp Pg 78 0).1 s (pW Pg 0 ((gv N ame ali alw) (lp Pg 78 0).1) κ k)) (dM.build [.fls aqO,.int arm,.int anx,.int asi,.int asj,.int g_2,.int g_3,.recs RT0 b2])=al N (fo N ame ali alw aqO arm asi asj g_2 g_3 (λr4=>κ.ext 0 (lK.build [.int asi,.int asj,.int g_2,.int g_3,.recs RT0 r4]))) (anx,b2):=
 aJ (λ(v_:Int × List RY0)=>dM.build [.fls aqO,.int arm,.int v_.1,.int asi,.int asj,.int g_2,.int g_3,.recs RT0 v_.2]) (λv_ K_=>by obtain⟨anx,b2⟩:=v_; kernel_rfl) N (anx,b2)
theorem rq:aH (PM N ame ali alw) 0 (gv N ame ali alw) (lp Pg 78 0) (dM,fG N ame ali alw):=by
 intro a κ h;simp only at h;unfold fG at h;split at h
 ·obtain⟨e_,h⟩:=RT.cast_inv h (by decide); subst e_; exact(rZ _ _ _ _ _ _ _ _ _ _ _ _ _).trans h
 ·cases h
theorem uB:aT (PM N ame ali alw) 0 (gv N ame ali alw) (lp Pg 78 0):=
 aC [(dM,fG N ame ali alw)] (by kernel_rfl) ⟨rq _ _ _ _,trivial⟩
theorem uw (atw:ab Pg 38 (I4 ame)) (amm:ab Pg 83 (cH ali)) (aqb:ab Pg 84 (j5 alw)):ab Pg 78 (jq (jr N ame ali alw)):=by
 refine av (cx:=(PM N ame ali alw)) (ai (aa atw (aa amm (aa aqb (ac _)))) (by kernel_rfl)) oH (lJ (jr N ame ali alw)) (gv N ame ali alw) 1 0 (by kernel_rfl) (bK (uB _ _ _ _)) ?_;intro a k h;unfold lJ at h;split at h;exact⟨[],rfl,rfl,.trans (by kernel_rfl) h⟩;cases h
end
def sK (N:Nat):Nat->Option Ann:=λb_=>none
theorem rj (N:Nat):ab Pg 98 (bO (gN N)):=by
 refine av (cx:=⟨Pg,ah [],am,N⟩) (ai (ac _) (by kernel_rfl)) mj (jk (gN N)) (sK N) 0 1 (by kernel_rfl) (λi_ hi_=>by omega) ?_;intro a k h;unfold jk at h;split at h
 ·obtain⟨e_,h⟩:=RT.cast_inv h (by decide); subst e_; exact⟨[_],rfl,rfl,.trans (by kernel_rfl) h⟩
 ·cases h
def ahr (N:Nat):Nat->Option Ann:=λb_=>none
theorem ach (N:Nat):ab Pg 131 (C1 (aaQ N)):=by
 refine ao (md:=false) (cx:=⟨Pg,ah [],am,N⟩) (ai (ac _) (by kernel_rfl)) Ns (YF (aaQ N)) (ahr N) 0 0 (by kernel_rfl) (λi_ hi_=>by omega) ?_;intro a k h;unfold YF at h;split at h;exact⟨[],rfl,rfl,.trans (by kernel_rfl) h⟩;cases h
def ahn (N:Nat) (amP:tk) (anm:yo):Nat->Option Ann:=λb_=>none
theorem acb (N:Nat) (amP:tk) (anm:yo) (atu:ab Pg 105 (I2 amP)) (at6:ab Pg 105 (Rv anm)):ab Pg 111 (FT (aaM N amP anm)):=by
 refine ao (md:=false) (cx:=⟨Pg,ah [(105,(Cc (I2 amP) (Rv anm) Fv))],am,N⟩) (ai (aa (qw atu at6) (ac _)) (by kernel_rfl)) Xh (YA (aaM N amP anm)) (ahn N amP anm) 0 1 (by kernel_rfl) (λi_ hi_=>by omega) ?_;intro a k h;unfold YA at h;split at h;exact⟨[_],rfl,rfl,.trans (by kernel_rfl) h⟩;cases h
def ah2 (N:Nat) (alH:jK) (amF:oE) (anb:qY):Nat->Option Ann:=λb_=>none
theorem adc (N:Nat) (alH:jK) (amF:oE) (anb:qY) (aqH:ab Pg 107 (xV alH)) (ar2:ab Pg 131 (C1 amF)) (asz:ab Pg 111 (FT anb)):ab Pg 127 (aar (abr N alH amF anb)):=by
 refine ao (md:=false) (cx:=⟨Pg,ah [(107,(xV alH)),(131,(C1 amF)),(111,(FT anb))],am,N⟩) (ai (aa aqH (aa ar2 (aa asz (ac _)))) (by kernel_rfl)) X8 (Zr (abr N alH amF anb)) (ah2 N alH amF anb) 0 1 (by kernel_rfl) (λi_ hi_=>by omega) ?_;intro a k h;unfold Zr at h;split at h;exact⟨[_],rfl,rfl,.trans (by kernel_rfl) h⟩;cases h
def ahU (N:Nat):Nat->Option Ann:=λb_=>none
theorem ac0 (N:Nat):ab Pg 131 (aah (abj N)):=by
 refine ao (md:=false) (cx:=⟨Pg,ah [],am,N⟩) (ai (ac _) (by kernel_rfl)) XX (Ze (abj N)) (ahU N) 0 1 (by kernel_rfl) (λi_ hi_=>by omega) ?_;intro a k h;unfold Ze at h;split at h;exact⟨[_],rfl,rfl,.trans (by kernel_rfl) h⟩;cases h
section
variable (N:Nat) (SQ8:yP)
noncomputable abbrev JV:Cx:=⟨Pg,ah [(124,(FQ8 SQ8))],am,N⟩
def Ea (N:Nat) (SQ8:yP):Nat->Option Ann:=λb_=>none
def MU (d_:List V) (u_:List (Option Blk)) (x y:LI):St:=⟨(vwr x::vwr y::dqs d_ 0 22 []),[]⟩
theorem agv (d_:List V) (u_:List (Option Blk)) (x y:LI) (c_:KV):bc (JV N SQ8) 0 (Ea N SQ8) ((cds Pg 143).drop 3) 0 (MU d_ u_ x y) (r_ false Pg 143 0 c_)=Jf N SQ8 x y (λr0=>c_ (vwr r0) []):=by kernel_rfl
theorem F9 (x y:LI) (c_:KV) (κn_:St->Bool):bc (JV N SQ8) 0 (Ea N SQ8) (sg Pg 143 0 3) 0 (st0 Pg 143 (AQ.args [.ints x,.ints y]) []) { (r_ false Pg 143 0 c_)with nrm:=κn_ } = (cond ((((y.length:Nat):Int)==1)==true) (inR 0 y.length&&cond ((y.getD 0 0)==1) (c_ (vwr x) []) (κn_ (MU (.any::.any::.nil::.any::.any::vwr y::vwi ((y.length:Nat):Int)::.bool (((y.length:Nat):Int)==1)::.bool true::vwr y::.pi .u64 y 0::vwu (y.getD 0 0)::.bool ((y.getD 0 0)==1)::.bool false::vqs 8 []) [] x y))) (κn_ (MU (.any::.any::.nil::.any::.any::vwr y::vwi ((y.length:Nat):Int)::.bool (((y.length:Nat):Int)==1)::.bool false::.val undef::.val undef::.val undef::.val undef::.bool false::vqs 8 []) [] x y))):=by kernel_rfl
theorem Gc (x y:LI) (c_:KV):bc (JV N SQ8) 0 (Ea N SQ8) ((cds Pg 143).drop 0) 0 (st0 Pg 143 (AQ.args [.ints x,.ints y]) []) (r_ false Pg 143 0 c_)=Gt N SQ8 x y (λr0=>c_ (vwr r0) []):=by rw[eD 0 3 3 rfl];refine(F9 N SQ8 x y c_ _).trans ?_;simp only[agv];kernel_rfl
theorem afS (x y:LI) (c_:KV):vW false (JV N SQ8) (Ea N SQ8) 143 (AQ.args [.ints x,.ints y]) [] c_=Gt N SQ8 x y (λr0=>c_ (vwr r0) []):=
 (nl (by kernel_rfl)).trans (Gc N SQ8 x y c_)
theorem Vr (hQ8:ab Pg 124 (FQ8 SQ8)):ab Pg 143 (Co (Gt N SQ8)):=by
 refine ao (md:=false) (cx:=(JV N SQ8)) (ai (aa hQ8 (ac _)) (by kernel_rfl)) AQ (NE (Gt N SQ8)) (Ea N SQ8) 0 0 (by kernel_rfl) (λi_ hi_=>by omega) ?_;intro a k h;unfold NE at h;split at h;exact⟨[],rfl,rfl,(afS _ _ _ _ _).trans h⟩;cases h
def m9:StSh:=⟨(.roi .u64::.roi .u64::.any::.any::.any::.int .i64::.slw 0::.int .u64::sqs 9 (.int .i64::.int .i64::sqs 23 [])),[some (22,1,.ints .u64)]⟩
def Cl:StSh:=⟨(sqs 5 (.int .i64::.slw 0::.int .u64::sqs 34 [])),[some (22,1,.ints .u64)]⟩
end
section
variable (N:Nat) (amg:q7) (SQ5:qZ) (SQ2:kH)
noncomputable abbrev UM:Cx:=⟨Pg,ah [(146,(FY amg)),(142,(FQ5 SQ5)),(121,(FQ2 SQ2))],am,N⟩
def m0:List Atom->K->Bool:=λa_ κ=>match a_ with
 | [.ints x_1,.ints y_1,.int n,.int carry,.int t17,.int t18,.ints z]=>al N (qL N amg SQ5 SQ2 x_1 y_1 n t17 (λr1 r2=>κ.ext 0 (Cl.build [.int n,.int r1,.ints r2]))) (carry,t18,z)
 | _=>false
def LY:Nat->Option Ann:=λb_=>cond (b_==0) (some ⟨⟨[0,1,5,6,7,17,18],[],[],[]⟩,[(0,⟨[5,6,7],[],[],[]⟩)],some ⟨[4],[],[],[]⟩,some (aF [(m9,m0 N amg SQ5 SQ2)])⟩) (none)
theorem BS:aH (UM N amg SQ5 SQ2) 0 (LY N amg SQ5 SQ2) (lp Pg 152 0) (m9,m0 N amg SQ5 SQ2):=by
 intro a κ h;simp only at h;unfold m0 at h;split at h
 ·rename_i x_1 y_1 n carry t17 t18 z;exact .trans (aJ (λ(v_:Int × Int × LI)=>m9.build [.ints x_1,.ints y_1,.int n,.int v_.1,.int t17,.int v_.2.1,.ints v_.2.2]) (λv_ K_=>by obtain⟨carry,t18,z⟩:=v_; kernel_rfl) N (carry,t18,z)) h
 ·cases h
theorem Ie:aT (UM N amg SQ5 SQ2) 0 (LY N amg SQ5 SQ2) (lp Pg 152 0):=
 aC [(m9,m0 N amg SQ5 SQ2)] (by kernel_rfl) ⟨BS _ _ _ _,trivial⟩
theorem VY (asD:ab Pg 146 (FY amg)) (hQ5:ab Pg 142 (FQ5 SQ5)) (hQ2:ab Pg 121 (FQ2 SQ2)):ab Pg 152 (O0 (Pw N amg SQ5 SQ2)):=by
 refine ao (md:=false) (cx:=(UM N amg SQ5 SQ2)) (ai (aa asD (aa hQ5 (aa hQ2 (ac _)))) (by kernel_rfl)) Q5 (Oc (Pw N amg SQ5 SQ2)) (LY N amg SQ5 SQ2) 1 0 (by kernel_rfl) (bK (Ie _ _ _ _)) ?_;intro a k h;unfold Oc at h;split at h;exact⟨[],rfl,rfl,.trans (by kernel_rfl) h⟩;cases h
end
def ahG (N:Nat) (apL:BB) (anO:uY) (SQ6:uf) (anl:uc):Nat->Option Ann:=λb_=>none
theorem acD (N:Nat) (apL:BB) (anO:uY) (SQ6:uf) (anl:uc) (avf:ab Pg 152 (O0 apL)) (aty:ab Pg 105 (I6 anO)) (hQ6:ab Pg 123 (FQ6 SQ6)) (atr:ab Pg 147 (Gr anl)):ab Pg 144 (Rz (aa5 N apL anO SQ6 anl)):=by
 refine ao (md:=false) (cx:=⟨Pg,ah [(152,(O0 apL)),(105,(I6 anO)),(123,(FQ6 SQ6)),(147,(Gr anl))],am,N⟩) (ai (aa avf (aa aty (aa hQ6 (aa atr (ac _))))) (by kernel_rfl)) XF (YZ (aa5 N apL anO SQ6 anl)) (ahG N apL anO SQ6 anl) 0 1 (by kernel_rfl) (λi_ hi_=>by omega) ?_;intro a k h;unfold YZ at h;split at h;exact⟨[_],rfl,rfl,.trans (by kernel_rfl) h⟩;cases h
def ahO (N:Nat) (amF:oE) (aqW:GF) (amj:qb) (amk:pK) (am0:q8) (amJ:oC) (aoP:zW) (alH:jK) (anb:qY):Nat->Option Ann:=λb_=>none
theorem acS (N:Nat) (amF:oE) (aqW:GF) (amj:qb) (amk:pK) (am0:q8) (amJ:oC) (aoP:zW) (alH:jK) (anb:qY) (ar2:ab Pg 131 (C1 amF)) (av6:ab Pg 131 (aah aqW)) (asB:ab Pg 122 (FV amj)) (ar6:ab Pg 143 (Co amk)) (asE:ab Pg 112 (FZ am0)) (ar0:ab Pg 105 (C0 amJ)) (aua:ab Pg 144 (Rz aoP)) (aqH:ab Pg 107 (xV alH)) (asz:ab Pg 111 (FT anb)):ab Pg 126 (aab (abd N amF aqW amj amk am0 amJ aoP alH anb)):=by
 refine ao (md:=false) (cx:=⟨Pg,ah [(131,(Cc (C1 amF) (aah aqW) Ns)),(122,(FV amj)),(143,(Co amk)),(112,(FZ am0)),(105,(C0 amJ)),(144,(Rz aoP)),(107,(xV alH)),(111,(FT anb))],am,N⟩) (ai (aa (qw ar2 av6) (aa asB (aa ar6 (aa asE (aa ar0 (aa aua (aa aqH (aa asz (ac _))))))))) (by kernel_rfl)) XQ (Y9 (abd N amF aqW amj amk am0 amJ aoP alH anb)) (ahO N amF aqW amj amk am0 amJ aoP alH anb) 0 2 (by kernel_rfl) (λi_ hi_=>by omega) ?_;intro a k h;unfold Y9 at h;split at h;exact⟨[_,_],rfl,rfl,.trans (by kernel_rfl) h⟩;cases h
def ah8 (N:Nat) (aq2:GN) (aqS:GA):Nat->Option Ann:=λb_=>none
theorem adl (N:Nat) (aq2:GN) (aqS:GA) (awg:ab Pg 127 (aar aq2)) (avY:ab Pg 126 (aab aqS)):ab Pg 113 (aax (aby N aq2 aqS)):=by
 refine ao (md:=false) (cx:=⟨Pg,ah [(127,(aar aq2)),(126,(aab aqS))],am,N⟩) (ai (aa awg (aa avY (ac _))) (by kernel_rfl)) Yd (Zy (aby N aq2 aqS)) (ah8 N aq2 aqS) 0 1 (by kernel_rfl) (λi_ hi_=>by omega) ?_;intro a k h;unfold Zy at h;split at h;exact⟨[_],rfl,rfl,.trans (by kernel_rfl) h⟩;cases h
def rV (N:Nat) (aq8:GT):Nat->Option Ann:=λb_=>none
theorem qy (N:Nat) (aq8:GT) (awm:ab Pg 113 (aax aq8)):ab Pg 99 (dn (fZ N aq8)):=by
 refine ao (md:=true) (cx:=⟨Pg,ah [(113,(aax aq8))],am,N⟩) (ai (aa awm (ac _)) (by kernel_rfl)) lF (iN (fZ N aq8)) (rV N aq8) 0 0 (by kernel_rfl) (λi_ hi_=>by omega) ?_;intro a k h;unfold iN at h;split at h;exact⟨[],rfl,rfl,.trans (by kernel_rfl) h⟩;cases h
def aft (N:Nat):Nat->Option Ann:=λb_=>none
theorem Vx (N:Nat):ab Pg 128 (Ox (Pb N)):=by
 refine ao (md:=false) (cx:=⟨Pg,ah [],am,N⟩) (ai (ac _) (by kernel_rfl)) QG (NK (Pb N)) (aft N) 0 0 (by kernel_rfl) (λi_ hi_=>by omega) ?_;intro a k h;unfold NK at h;split at h;exact⟨[],rfl,rfl,.trans (by kernel_rfl) h⟩;cases h
def afu (N:Nat) (apx:Bb):Nat->Option Ann:=λb_=>none
theorem Vy (N:Nat) (apx:Bb) (auR:ab Pg 128 (Ox apx)):ab Pg 114 (Oy (Pc N apx)):=by
 refine ao (md:=false) (cx:=⟨Pg,ah [(128,(Ox apx))],am,N⟩) (ai (aa auR (ac _)) (by kernel_rfl)) QH (NL (Pc N apx)) (afu N apx) 0 0 (by kernel_rfl) (λi_ hi_=>by omega) ?_;intro a k h;unfold NL at h;split at h;exact⟨[],rfl,rfl,.trans (by kernel_rfl) h⟩;cases h
def rY (N:Nat) (apy:Bc):Nat->Option Ann:=λb_=>none
theorem qB (N:Nat) (apy:Bc) (auS:ab Pg 114 (Oy apy)):ab Pg 100 (dp (gd N apy)):=by
 refine av (cx:=⟨Pg,ah [(114,(Oy apy))],am,N⟩) (ai (aa auS (ac _)) (by kernel_rfl)) lI (iQ (gd N apy)) (rY N apy) 0 0 (by kernel_rfl) (λi_ hi_=>by omega) ?_;intro a k h;unfold iQ at h;split at h;exact⟨[],rfl,rfl,.trans (by kernel_rfl) h⟩;cases h
def bG:StSh:=⟨(.any::.ptr 1 0::.int .i64::.any::.any::.int .i64::.int .i64::.any::.any::.int .i64::.int .i64::sqs 16 []),[some (130,1,.recs RT0),some (119,1,.cells [.int .i64,.int .i64,.slw 0])]⟩
def ie:StSh:=⟨(.any::.ptr 1 0::.any::.any::.any::.int .i64::.int .i64::sqs 20 []),[some (130,1,.recs RT0),some (119,1,.cells [.int .i64,.int .i64,.slw 0])]⟩
section
variable (N:Nat) (alc:aP) (alg:bf) (ale:bg) (ali:aR)
noncomputable abbrev Ep:Cx:=⟨Pg,ah [(98,(bO alc)),(99,(dn alg)),(100,(dp ale)),(83,(cH ali))],am,N⟩
def cL:List Atom->K->Bool:=λa_ κ=>match a_ with
 | [.int i,.int asn,.int asp,.int t9,.int t10,.recs t5_ an7,.int g_3,.int g_4]=>RT.cast RT0 t5_ an7 (λan7=>al N (ck N alc alg ale ali i asn asp t9 an7 g_3 g_4 (κ.ext 2 (ie.build [.int asn,.int asp,.recs RT0 an7,.int g_3,.int g_4]))) t10) false
 | _=>false
def bF:StSh:=⟨(.any::.ptr 1 0::.any::.any::.any::.int .i64::.int .i64::sqs 20 []),[some (130,1,.recs RT0),some (119,1,.cells [.int .i64,.int .i64,.slw 0])]⟩
def h_:StSh:=⟨(sqs 27 []),[some (130,1,.recs RT0)]⟩
def cK:List Atom->K->Bool:=λa_ κ=>match a_ with
 | [.int t5,.int t6,.recs t2_ b0,.int g,.int g_2]=>RT.cast RT0 t2_ b0 (λb0=>al N (cj N alc alg ale ali t5 b0 g g_2 (κ.ext 0 (h_.build [.recs RT0 b0]))) t6) false
 | _=>false
def aQ:Nat->Option Ann:=λb_=>cond (b_==2) (some ⟨⟨[1,2,5,6,9,10],[],[],[]⟩,[(2,⟨[1,5,6],[],[],[]⟩)],some ⟨[],[],[],[]⟩,some (aF [(bG,cL N alc alg ale ali)])⟩) (cond (b_==0) (some ⟨⟨[1,5,6],[],[],[]⟩,[(0,⟨[],[],[],[]⟩)],some ⟨[],[],[],[]⟩,some (aF [(bF,cK N alc alg ale ali)])⟩) (none))
theorem mD (κ:K) (i asn asp t9 t10:Int) (an7:List RY0) (g_3 g_4:Int):vG N (λs k=>eC (Ep N alc alg ale ali) 1 (aQ N alc alg ale ali) (lp Pg 85 1).2 (lp Pg 85 1).1 s (pW Pg 1 ((aQ N alc alg ale ali) (lp Pg 85 1).1) κ k)) (bG.build [.int i,.int asn,.int asp,.int t9,.int t10,.recs RT0 an7,.int g_3,.int g_4])=al N (ck N alc alg ale ali i asn asp t9 an7 g_3 g_4 (κ.ext 2 (ie.build [.int asn,.int asp,.recs RT0 an7,.int g_3,.int g_4]))) t10:=
 aJ (λv_=>bG.build [.int i,.int asn,.int asp,.int t9,.int v_,.recs RT0 an7,.int g_3,.int g_4]) (λv_ K_=>by kernel_rfl) N t10
theorem ms:aH (Ep N alc alg ale ali) 1 (aQ N alc alg ale ali) (lp Pg 85 1) (bG,cL N alc alg ale ali):=by
 intro a κ h;simp only at h;unfold cL at h;split at h
 ·obtain⟨e_,h⟩:=RT.cast_inv h (by decide); subst e_; exact(mD _ _ _ _ _ _ _ _ _ _ _ _ _ _).trans h
 ·cases h
theorem mC (κ:K) (t5 t6:Int) (b0:List RY0) (g g_2:Int):vG N (λs k=>eC (Ep N alc alg ale ali) 1 (aQ N alc alg ale ali) (lp Pg 85 0).2 (lp Pg 85 0).1 s (pW Pg 1 ((aQ N alc alg ale ali) (lp Pg 85 0).1) κ k)) (bF.build [.int t5,.int t6,.recs RT0 b0,.int g,.int g_2])=al N (cj N alc alg ale ali t5 b0 g g_2 (κ.ext 0 (h_.build [.recs RT0 b0]))) t6:=
 aJ (λv_=>bF.build [.int t5,.int v_,.recs RT0 b0,.int g,.int g_2]) (λv_ K_=>by kernel_rfl) N t6
theorem mq:aH (Ep N alc alg ale ali) 1 (aQ N alc alg ale ali) (lp Pg 85 0) (bF,cK N alc alg ale ali):=by
 intro a κ h;simp only at h;unfold cK at h;split at h
 ·obtain⟨e_,h⟩:=RT.cast_inv h (by decide); subst e_; exact(mC _ _ _ _ _ _ _ _ _ _ _).trans h
 ·cases h
theorem nL:aT (Ep N alc alg ale ali) 1 (aQ N alc alg ale ali) (lp Pg 85 1):=
 aC [(bG,cL N alc alg ale ali)] (by kernel_rfl) ⟨ms _ _ _ _ _,trivial⟩
theorem nK:aT (Ep N alc alg ale ali) 1 (aQ N alc alg ale ali) (lp Pg 85 0):=
 aC [(bF,cK N alc alg ale ali)] (by kernel_rfl) ⟨mq _ _ _ _ _,trivial⟩
theorem nI (amf:ab Pg 98 (bO alc)) (am3:ab Pg 99 (dn alg)) (am4:ab Pg 100 (dp ale)) (amm:ab Pg 83 (cH ali)):ab Pg 85 (dO (dQ N alc alg ale ali)):=by
 refine av (cx:=(Ep N alc alg ale ali)) (ai (aa amf (aa am3 (aa am4 (aa amm (ac _))))) (by kernel_rfl)) jn (fT (dQ N alc alg ale ali)) (aQ N alc alg ale ali) 2 1 (by kernel_rfl) (jV (nK _ _ _ _ _) (nL _ _ _ _ _)) ?_;intro a k h;unfold fT at h;split at h
 ·obtain⟨e_,h⟩:=RT.cast_inv h (by decide); subst e_; exact⟨[_],rfl,rfl,.trans (by kernel_rfl) h⟩
 ·cases h
end
def afB (N:Nat) (anf:yu) (SQ7:F2):Nat->Option Ann:=λb_=>none
theorem VH (N:Nat) (anf:yu) (SQ7:F2) (auf:ab Pg 94 (RC anf)) (hQ7:ab Pg 95 (FQ7 SQ7)):ab Pg 118 (OH (Pl N anf SQ7)):=by
 refine ao (md:=false) (cx:=⟨Pg,ah [(94,(RC anf)),(95,(FQ7 SQ7))],am,N⟩) (ai (aa auf (aa hQ7 (ac _))) (by kernel_rfl)) QQ (NU (Pl N anf SQ7)) (afB N anf SQ7) 0 0 (by kernel_rfl) (λi_ hi_=>by omega) ?_;intro a k h;unfold NU at h;split at h;exact⟨[],rfl,rfl,.trans (by kernel_rfl) h⟩;cases h
def z_ (N:Nat) (apC:Bl):Nat->Option Ann:=λb_=>none
theorem x_ (N:Nat) (apC:Bl) (au0:ab Pg 118 (OH apC)):ab Pg 102 (lN (lP N apC)):=by
 refine ao (md:=true) (cx:=⟨Pg,ah [(118,(OH apC))],am,N⟩) (ai (aa au0 (ac _)) (by kernel_rfl)) rK (od (lP N apC)) (z_ N apC) 0 0 (by kernel_rfl) (λi_ hi_=>by omega) ?_;intro a k h;unfold od at h;split at h;exact⟨[],rfl,rfl,.trans (by kernel_rfl) h⟩;cases h
def ahB (N:Nat) (amj:qb) (amk:pK) (am0:q8) (anb:qY):Nat->Option Ann:=λb_=>none
theorem acu (N:Nat) (amj:qb) (amk:pK) (am0:q8) (anb:qY) (asB:ab Pg 122 (FV amj)) (ar6:ab Pg 143 (Co amk)) (asE:ab Pg 112 (FZ am0)) (asz:ab Pg 111 (FT anb)):ab Pg 130 (Ry (aaZ N amj amk am0 anb)):=by
 refine ao (md:=false) (cx:=⟨Pg,ah [(122,(FV amj)),(143,(Co amk)),(112,(FZ am0)),(111,(FT anb))],am,N⟩) (ai (aa asB (aa ar6 (aa asE (aa asz (ac _))))) (by kernel_rfl)) Xw (YR (aaZ N amj amk am0 anb)) (ahB N amj amk am0 anb) 0 1 (by kernel_rfl) (λi_ hi_=>by omega) ?_;intro a k h;unfold YR at h;split at h;exact⟨[_],rfl,rfl,.trans (by kernel_rfl) h⟩;cases h
def ah7 (N:Nat) (amF:oE) (aoO:zV):Nat->Option Ann:=λb_=>none
theorem adk (N:Nat) (amF:oE) (aoO:zV) (ar2:ab Pg 131 (C1 amF)) (at9:ab Pg 130 (Ry aoO)):ab Pg 119 (aaw (abx N amF aoO)):=by
 refine ao (md:=false) (cx:=⟨Pg,ah [(131,(C1 amF)),(130,(Ry aoO))],am,N⟩) (ai (aa ar2 (aa at9 (ac _))) (by kernel_rfl)) Yc (Zx (abx N amF aoO)) (ah7 N amF aoO) 0 1 (by kernel_rfl) (λi_ hi_=>by omega) ?_;intro a k h;unfold Zx at h;split at h;exact⟨[_],rfl,rfl,.trans (by kernel_rfl) h⟩;cases h
def rW (N:Nat) (aq7:GS):Nat->Option Ann:=λb_=>none
theorem qz (N:Nat) (aq7:GS) (awl:ab Pg 119 (aaw aq7)):ab Pg 103 (fW (f_ N aq7)):=by
 refine ao (md:=true) (cx:=⟨Pg,ah [(119,(aaw aq7))],am,N⟩) (ai (aa awl (ac _)) (by kernel_rfl)) lG (iO (f_ N aq7)) (rW N aq7) 0 0 (by kernel_rfl) (λi_ hi_=>by omega) ?_;intro a k h;unfold iO at h;split at h;exact⟨[],rfl,rfl,.trans (by kernel_rfl) h⟩;cases h
def ah6 (N:Nat) (amF:oE) (aoO:zV):Nat->Option Ann:=λb_=>none
theorem adi (N:Nat) (amF:oE) (aoO:zV) (ar2:ab Pg 131 (C1 amF)) (at9:ab Pg 130 (Ry aoO)):ab Pg 129 (aav (abw N amF aoO)):=by
 refine ao (md:=false) (cx:=⟨Pg,ah [(131,(C1 amF)),(130,(Ry aoO))],am,N⟩) (ai (aa ar2 (aa at9 (ac _))) (by kernel_rfl)) Yb (Zw (abw N amF aoO)) (ah6 N amF aoO) 0 1 (by kernel_rfl) (λi_ hi_=>by omega) ?_;intro a k h;unfold Zw at h;split at h;exact⟨[_],rfl,rfl,.trans (by kernel_rfl) h⟩;cases h
def ra (N:Nat) (aq6:GR):Nat->Option Ann:=λb_=>none
theorem pR (N:Nat) (aq6:GR) (awk:ab Pg 129 (aav aq6)):ab Pg 117 (fB (fC N aq6)):=by
 refine ao (md:=true) (cx:=⟨Pg,ah [(129,(aav aq6))],am,N⟩) (ai (aa awk (ac _)) (by kernel_rfl)) kX (iG (fC N aq6)) (ra N aq6) 0 0 (by kernel_rfl) (λi_ hi_=>by omega) ?_;intro a k h;unfold iG at h;split at h;exact⟨[],rfl,rfl,.trans (by kernel_rfl) h⟩;cases h
def ahZ (N:Nat) (amF:oE) (amj:qb) (amk:pK) (am0:q8) (amJ:oC) (aoP:zW) (alH:jK) (anb:qY):Nat->Option Ann:=λb_=>none
theorem ac_ (N:Nat) (amF:oE) (amj:qb) (amk:pK) (am0:q8) (amJ:oC) (aoP:zW) (alH:jK) (anb:qY) (ar2:ab Pg 131 (C1 amF)) (asB:ab Pg 122 (FV amj)) (ar6:ab Pg 143 (Co amk)) (asE:ab Pg 112 (FZ am0)) (ar0:ab Pg 105 (C0 amJ)) (aua:ab Pg 144 (Rz aoP)) (aqH:ab Pg 107 (xV alH)) (asz:ab Pg 111 (FT anb)):ab Pg 126 (aap (TV N amF amj amk am0 amJ aoP alH anb)):=by
 refine ao (md:=false) (cx:=⟨Pg,ah [(131,(C1 amF)),(122,(FV amj)),(143,(Co amk)),(112,(FZ am0)),(105,(C0 amJ)),(144,(Rz aoP)),(107,(xV alH)),(111,(FT anb))],am,N⟩) (ai (aa ar2 (aa asB (aa ar6 (aa asE (aa ar0 (aa aua (aa aqH (aa asz (ac _))))))))) (by kernel_rfl)) X5 (Zo (TV N amF amj amk am0 amJ aoP alH anb)) (ahZ N amF amj amk am0 amJ aoP alH anb) 0 1 (by kernel_rfl) (λi_ hi_=>by omega) ?_;intro a k h;unfold Zo at h;split at h;exact⟨[_],rfl,rfl,.trans (by kernel_rfl) h⟩;cases h
def rX (N:Nat) (aq0:GL):Nat->Option Ann:=λb_=>none
theorem qA (N:Nat) (aq0:GL) (awe:ab Pg 126 (aap aq0)):ab Pg 116 (fX (gc N aq0)):=by
 refine ao (md:=true) (cx:=⟨Pg,ah [(126,(aap aq0))],am,N⟩) (ai (aa awe (ac _)) (by kernel_rfl)) lH (iP (gc N aq0)) (rX N aq0) 0 0 (by kernel_rfl) (λi_ hi_=>by omega) ?_;intro a k h;unfold iP at h;split at h;exact⟨[],rfl,rfl,.trans (by kernel_rfl) h⟩;cases h
def sL (N:Nat):Nat->Option Ann:=λb_=>none
theorem rk (N:Nat):ab Pg 115 (gK (gO N)):=by
 refine av (cx:=⟨Pg,ah [],am,N⟩) (ai (ac _) (by kernel_rfl)) ml (jl (gO N)) (sL N) 0 1 (by kernel_rfl) (λi_ hi_=>by omega) ?_;intro a k h;unfold jl at h;split at h
 ·obtain⟨e_,h⟩:=RT.cast_inv h (by decide); subst e_; exact⟨[_],rfl,rfl,.trans (by kernel_rfl) h⟩
 ·cases h
def cU:StSh:=⟨(.any::.int .i64::.int .i64::.any::.ptr 1 0::.any::.any::.ptr 2 0::.any::.any::.int .i64::.int .i64::sqs 18 []),[some (130,1,.recs RT0),some (119,1,.cells [.int .i64,.int .i64,.slw 0]),some (130,1,.cells [.rp [.bool,.roi .u64,.bool,.roi .u64] 0])]⟩
def jU:StSh:=⟨(sqs 30 []),[some (130,1,.recs RT0)]⟩
section
variable (N:Nat) (alc:aP) (alr:cF) (als:cX) (alt:du)
noncomputable abbrev PN:Cx:=⟨Pg,ah [(98,(bO alc)),(117,(fB alr)),(116,(fX als)),(115,(gK alt))],am,N⟩
def dS:List Atom->K->Bool:=λa_ κ=>match a_ with
 | [.int i_1,.int asG,.int t10,.int t11,.recs t4_ b0,.int g,.int g_2,.bool x,.ints x_4,.bool x_5,.ints x_6]=>RT.cast RT0 t4_ b0 (λb0=>al N (dD N alc alr als alt i_1 asG t10 g g_2 x x_4 x_5 x_6 (λr0=>κ.ext 0 (jU.build [.recs RT0 r0]))) (t11,b0)) false
 | _=>false
def dX:Nat->Option Ann:=λb_=>cond (b_==0) (some ⟨⟨[1,2,4,7,10,11],[],[],[]⟩,[(0,⟨[],[],[],[]⟩)],some ⟨[],[],[],[]⟩,some (aF [(cU,dS N alc alr als alt)])⟩) (none)
theorem pq (κ:K) (i_1 asG t10 t11:Int) (b0:List RY0) (g g_2:Int) (x:Bool) (x_4:LI) (x_5:Bool) (x_6:LI):vG N (λs k=>eC (PN N alc alr als alt) 1 (dX N alc alr als alt) (lp Pg 101 0).2 (lp Pg 101 0).1 s (pW Pg 1 ((dX N alc alr als alt) (lp Pg 101 0).1) κ k)) (cU.build [.int i_1,.int asG,.int t10,.int t11,.recs RT0 b0,.int g,.int g_2,.bool x,.ints x_4,.bool x_5,.ints x_6])=al N (dD N alc alr als alt i_1 asG t10 g g_2 x x_4 x_5 x_6 (λr0=>κ.ext 0 (jU.build [.recs RT0 r0]))) (t11,b0):=
 aJ (λ(v_:Int × List RY0)=>cU.build [.int i_1,.int asG,.int t10,.int v_.1,.recs RT0 v_.2,.int g,.int g_2,.bool x,.ints x_4,.bool x_5,.ints x_6]) (λv_ K_=>by obtain⟨t11,b0⟩:=v_; kernel_rfl) N (t11,b0)
theorem oU:aH (PN N alc alr als alt) 1 (dX N alc alr als alt) (lp Pg 101 0) (cU,dS N alc alr als alt):=by
 intro a κ h;simp only at h;unfold dS at h;split at h
 ·obtain⟨e_,h⟩:=RT.cast_inv h (by decide); subst e_; exact(pq _ _ _ _ _ _ _ _ _ _ _ _ _ _ _ _ _).trans h
 ·cases h
theorem ru:aT (PN N alc alr als alt) 1 (dX N alc alr als alt) (lp Pg 101 0):=
 aC [(cU,dS N alc alr als alt)] (by kernel_rfl) ⟨oU _ _ _ _ _,trivial⟩
theorem ri (amf:ab Pg 98 (bO alc)) (aoL:ab Pg 117 (fB alr)) (aoV:ab Pg 116 (fX als)) (ao3:ab Pg 115 (gK alt)):ab Pg 101 (gJ (gM N alc alr als alt)):=by
 refine av (cx:=(PN N alc alr als alt)) (ai (aa amf (aa aoL (aa aoV (aa ao3 (ac _))))) (by kernel_rfl)) mi (jj (gM N alc alr als alt)) (dX N alc alr als alt) 1 1 (by kernel_rfl) (bK (ru _ _ _ _ _)) ?_;intro a k h;unfold jj at h;split at h
 ·obtain⟨e_,h⟩:=RT.cast_inv h (by decide); subst e_; exact⟨[_],rfl,rfl,.trans (by kernel_rfl) h⟩
 ·cases h
def bM:StSh:=⟨(.any::.ptr 1 0::.any::.int .i64::.int .i64::.ptr 2 0::.int .i64::.any::.any::.int .i64::.int .i64::sqs 43 []),[some (130,1,.recs RT0),some (119,1,.cells [.int .i64,.int .i64,.slw 0]),some (130,1,.cells [.rp [.bool,.roi .u64,.bool,.roi .u64] 0])]⟩
def iw:StSh:=⟨(.any::.any::.int .i64::sqs 51 []),[some (130,1,.recs RT0)]⟩
def iy:StSh:=⟨(.any::.ptr 1 0::.any::.int .i64::.any::.ptr 2 0::.any::.any::.any::.int .i64::.int .i64::sqs 43 []),[some (130,1,.recs RT0),some (119,1,.cells [.int .i64,.int .i64,.slw 0]),some (130,1,.cells [.rp [.bool,.roi .u64,.bool,.roi .u64] 0])]⟩
end
section
variable (N:Nat) (alc:aP) (ale:bg) (alu:gP) (alo:cW) (alg:bf) (alp:dr)
noncomputable abbrev Er:Cx:=⟨Pg,ah [(98,(bO alc)),(100,(dp ale)),(102,(lN alu)),(103,(fW alo)),(99,(dn alg)),(101,(gJ alp))],am,N⟩
def dc:List Atom->K->Bool:=λa_ κ=>match a_ with
 | [.int s_1,.int k_,.int i,.int asq,.int anU,.recs t5_ an7,.int g_3,.int g_4,.bool p,.ints p_1,.bool p_2,.ints p_3]=>RT.cast RT0 t5_ an7 (λan7=>al N (aE N alc ale alu alo alg alp s_1 k_ asq anU g_3 g_4 p p_1 p_2 p_3 (λr0 r1=>κ.ret (iw.build [.int r0,.recs RT0 r1])) (λr3=>κ.ext 2 (iy.build [.int s_1,.int asq,.int anU,.recs RT0 r3,.int g_3,.int g_4,.bool p,.ints p_1,.bool p_2,.ints p_3]))) (i,an7)) false
 | _=>false
def bL:StSh:=⟨(.any::.ptr 1 0::.any::.int .i64::sqs 5 (.int .i64::.int .i64::sqs 43 [])),[some (130,1,.recs RT0),some (119,1,.cells [.int .i64,.int .i64,.slw 0])]⟩
def iv:StSh:=⟨(.any::.any::.int .i64::sqs 51 []),[some (130,1,.recs RT0)]⟩
def ix:StSh:=⟨(.any::.any::.any::.int .i64::sqs 50 []),[some (130,1,.recs RT0)]⟩
def db:List Atom->K->Bool:=λa_ κ=>match a_ with
 | [.int s,.int t9,.int t10,.recs t3_ b0,.int g,.int g_2]=>RT.cast RT0 t3_ b0 (λb0=>al N (aV N alc ale alu alo alg alp t9 g g_2 (λr0 r1=>κ.ret (iv.build [.int r0,.recs RT0 r1])) (λr0 r1=>κ.ext 0 (ix.build [.int r0,.recs RT0 r1]))) (s,t10,b0)) false
 | _=>false
def aS:Nat->Option Ann:=λb_=>cond (b_==2) (some ⟨⟨[1,3,4,5,6,9,10],[],[],[]⟩,[(2,⟨[1,3,5,9,10],[],[],[]⟩)],some ⟨[2],[],[],[]⟩,some (aF [(bM,dc N alc ale alu alo alg alp)])⟩) (cond (b_==0) (some ⟨⟨[1,3,9,10],[],[],[]⟩,[(0,⟨[3],[],[],[]⟩)],some ⟨[2],[],[],[]⟩,some (aF [(bL,db N alc ale alu alo alg alp)])⟩) (none))
theorem nc (κ:K) (s_1 k_ i asq anU:Int) (an7:List RY0) (g_3 g_4:Int) (p:Bool) (p_1:LI) (p_2:Bool) (p_3:LI):vG N (λs k=>eC (Er N alc ale alu alo alg alp) 1 (aS N alc ale alu alo alg alp) (lp Pg 86 1).2 (lp Pg 86 1).1 s (pW Pg 1 ((aS N alc ale alu alo alg alp) (lp Pg 86 1).1) κ k)) (bM.build [.int s_1,.int k_,.int i,.int asq,.int anU,.recs RT0 an7,.int g_3,.int g_4,.bool p,.ints p_1,.bool p_2,.ints p_3])=al N (aE N alc ale alu alo alg alp s_1 k_ asq anU g_3 g_4 p p_1 p_2 p_3 (λr0 r1=>κ.ret (iw.build [.int r0,.recs RT0 r1])) (λr3=>κ.ext 2 (iy.build [.int s_1,.int asq,.int anU,.recs RT0 r3,.int g_3,.int g_4,.bool p,.ints p_1,.bool p_2,.ints p_3]))) (i,an7):=
 aJ (λ(v_:Int × List RY0)=>bM.build [.int s_1,.int k_,.int v_.1,.int asq,.int anU,.recs RT0 v_.2,.int g_3,.int g_4,.bool p,.ints p_1,.bool p_2,.ints p_3]) (λv_ K_=>by obtain⟨i,an7⟩:=v_; kernel_rfl) N (i,an7)
theorem mK:aH (Er N alc ale alu alo alg alp) 1 (aS N alc ale alu alo alg alp) (lp Pg 86 1) (bM,dc N alc ale alu alo alg alp):=by
 intro a κ h;simp only at h;unfold dc at h;split at h
 ·obtain⟨e_,h⟩:=RT.cast_inv h (by decide); subst e_; exact(nc _ _ _ _ _ _ _ _ _ _ _ _ _ _ _ _ _ _ _ _).trans h
 ·cases h
theorem na (κ:K) (s t9 t10:Int) (b0:List RY0) (g g_2:Int):vG N (λs k=>eC (Er N alc ale alu alo alg alp) 1 (aS N alc ale alu alo alg alp) (lp Pg 86 0).2 (lp Pg 86 0).1 s (pW Pg 1 ((aS N alc ale alu alo alg alp) (lp Pg 86 0).1) κ k)) (bL.build [.int s,.int t9,.int t10,.recs RT0 b0,.int g,.int g_2])=al N (aV N alc ale alu alo alg alp t9 g g_2 (λr0 r1=>κ.ret (iv.build [.int r0,.recs RT0 r1])) (λr0 r1=>κ.ext 0 (ix.build [.int r0,.recs RT0 r1]))) (s,t10,b0):=
 aJ (λ(v_:Int × Int × List RY0)=>bL.build [.int v_.1,.int t9,.int v_.2.1,.recs RT0 v_.2.2,.int g,.int g_2]) (λv_ K_=>by obtain⟨s,t10,b0⟩:=v_; kernel_rfl) N (s,t10,b0)
theorem mJ:aH (Er N alc ale alu alo alg alp) 1 (aS N alc ale alu alo alg alp) (lp Pg 86 0) (bL,db N alc ale alu alo alg alp):=by
 intro a κ h;simp only at h;unfold db at h;split at h
 ·obtain⟨e_,h⟩:=RT.cast_inv h (by decide); subst e_; exact(na _ _ _ _ _ _ _ _ _ _ _ _ _ _).trans h
 ·cases h
theorem oA:aT (Er N alc ale alu alo alg alp) 1 (aS N alc ale alu alo alg alp) (lp Pg 86 1):=
 aC [(bM,dc N alc ale alu alo alg alp)] (by kernel_rfl) ⟨mK _ _ _ _ _ _ _,trivial⟩
theorem oz:aT (Er N alc ale alu alo alg alp) 1 (aS N alc ale alu alo alg alp) (lp Pg 86 0):=
 aC [(bL,db N alc ale alu alo alg alp)] (by kernel_rfl) ⟨mJ _ _ _ _ _ _ _,trivial⟩
theorem ow (amf:ab Pg 98 (bO alc)) (am4:ab Pg 100 (dp ale)) (aqJ:ab Pg 102 (lN alu)) (aoU:ab Pg 103 (fW alo)) (am3:ab Pg 99 (dn alg)) (ao2:ab Pg 101 (gJ alp)):ab Pg 86 (ek (ep N alc ale alu alo alg alp)):=by
 refine av (cx:=(Er N alc ale alu alo alg alp)) (ai (aa amf (aa am4 (aa aqJ (aa aoU (aa am3 (aa ao2 (ac _))))))) (by kernel_rfl)) jT (gF (ep N alc ale alu alo alg alp)) (aS N alc ale alu alo alg alp) 2 1 (by kernel_rfl) (jV (oz _ _ _ _ _ _ _) (oA _ _ _ _ _ _ _)) ?_;intro a k h;unfold gF at h;split at h
 ·obtain⟨e_,h⟩:=RT.cast_inv h (by decide); subst e_; exact⟨[_],rfl,rfl,.trans (by kernel_rfl) h⟩
 ·cases h
end
def rU (N:Nat) (ali:aR) (alz:bH) (alC:bQ):Nat->Option Ann:=λb_=>none
theorem qx (N:Nat) (ali:aR) (alz:bH) (alC:bQ) (amm:ab Pg 83 (cH ali)) (aoi:ab Pg 85 (dO alz)) (aos:ab Pg 86 (ek alC)):ab Pg 79 (fV (fY N ali alz alC)):=by
 refine av (cx:=⟨Pg,ah [(83,(cH ali)),(85,(dO alz)),(86,(ek alC))],am,N⟩) (ai (aa amm (aa aoi (aa aos (ac _)))) (by kernel_rfl)) lE (iM (fY N ali alz alC)) (rU N ali alz alC) 0 1 (by kernel_rfl) (λi_ hi_=>by omega) ?_;intro a k h;unfold iM at h;split at h
 ·obtain⟨e_,h⟩:=RT.cast_inv h (by decide); subst e_; exact⟨[_],rfl,rfl,.trans (by kernel_rfl) h⟩
 ·cases h
def xW (N:Nat) (alR:eF) (alF:cV):Nat->Option Ann:=λb_=>none
theorem vt (N:Nat) (alR:eF) (alF:cV) (ap1:ab Pg 78 (jq alR)) (aoT:ab Pg 79 (fV alF)):ab Pg 63 (j4 (j6 N alR alF)):=by
 refine V4 (md:=none) (cx:=⟨Pg,ah [(78,(jq alR)),(79,(fV alF))],am,N⟩) (ai (aa ap1 (aa aoT (ac _))) (by kernel_rfl)) hD_ pI (mu (j6 N alR alF)) (xW N alR alF) 0 0 (by kernel_rfl) (λi_ hi_=>by omega) ?_;intro a k h;unfold mu at h;split at h;exact⟨[],rfl,rfl,.trans (by kernel_rfl) h⟩;cases h
def yT (N:Nat) (alS:fq):Nat->Option Ann:=λb_=>none
theorem wo (N:Nat) (alS:fq) (aqa:ab Pg 63 (j4 alS)):ab Pg 41 (gI (kM N alS)):=by
 refine av (cx:=⟨Pg,ah [(63,(j4 alS))],am,N⟩) (ai (aa aqa (ac _)) (by kernel_rfl)) qi (ng (kM N alS)) (yT N alS) 0 0 (by kernel_rfl) (λi_ hi_=>by omega) ?_;intro a k h;unfold ng at h;split at h;exact⟨[],rfl,rfl,.trans (by kernel_rfl) h⟩;cases h
def C3 (N:Nat) (ame:uW) (alV:nz) (aqY:GI) (alD:cY):Nat->Option Ann:=λb_=>none
theorem Al (N:Nat) (ame:uW) (alV:nz) (aqY:GI) (alD:cY) (atw:ab Pg 38 (I4 ame)) (asC:ab Pg 39 (FX alV)) (awa:ab Pg 40 (aal aqY)) (an_:ab Pg 41 (gI alD)):ab Pg 20 (jH (nx N ame alV aqY alD)):=by
 refine av (cx:=⟨Pg,ah [(38,(I4 ame)),(39,(FX alV)),(40,(aal aqY)),(41,(gI alD))],am,N⟩) (ai (aa atw (aa asC (aa awa (aa an_ (ac _))))) (by kernel_rfl)) tS (pX (nx N ame alV aqY alD)) (C3 N ame alV aqY alD) 0 0 (by kernel_rfl) (λi_ hi_=>by omega) ?_;intro a k h;unfold pX at h;split at h;exact⟨[],rfl,rfl,.trans (by kernel_rfl) h⟩;cases h
def Eh (N:Nat) (alV:nz):Nat->Option Ann:=λb_=>none
theorem BO (N:Nat) (alV:nz) (asC:ab Pg 39 (FX alV)):ab Pg 66 (o_ (pb N alV)):=by
 refine av (cx:=⟨Pg,ah [(39,(FX alV))],am,N⟩) (ai (aa asC (ac _)) (by kernel_rfl)) vj (rL (pb N alV)) (Eh N alV) 0 0 (by kernel_rfl) (λi_ hi_=>by omega) ?_;intro a k h;unfold rL at h;split at h;exact⟨[],rfl,rfl,.trans (by kernel_rfl) h⟩;cases h
def F3 (N:Nat):Nat->Option Ann:=λb_=>none
theorem C_ (N:Nat):ab Pg 56 (qo (ua N)):=by
 refine av (cx:=⟨Pg,ah [],am,N⟩) (ai (ac _) (by kernel_rfl)) w8 (te (ua N)) (F3 N) 0 0 (by kernel_rfl) (λi_ hi_=>by omega) ?_;intro a k h;unfold te at h;split at h;exact⟨[],rfl,rfl,.trans (by kernel_rfl) h⟩;cases h
def ahK (N:Nat) (ams:qe):Nat->Option Ann:=λb_=>none
theorem acK (N:Nat) (ams:qe) (asF:ab Pg 33 (F0 ams)):ab Pg 49 (LB (afa N ams)):=by
 refine av (cx:=⟨Pg,ah [(33,(F0 ams))],am,N⟩) (ai (aa asF (ac _)) (by kernel_rfl)) XL (Rg (afa N ams)) (ahK N ams) 0 1 (by kernel_rfl) (λi_ hi_=>by omega) ?_;intro a k h;unfold Rg at h;split at h;exact⟨[_],rfl,rfl,.trans (by kernel_rfl) h⟩;cases h
def ahR (N:Nat) (anC:yr):Nat->Option Ann:=λb_=>none
theorem acV (N:Nat) (anC:yr) (aub:ab Pg 49 (LB anC)):ab Pg 50 (TL (afe N anC)):=by
 refine av (cx:=⟨Pg,ah [(49,(LB anC))],am,N⟩) (rH (aa aub (ac _)) ⟨(eB (by kernel_rfl) (lu anC)),trivial⟩) XT (Ri (afe N anC)) (ahR N anC) 0 1 (by kernel_rfl) (λi_ hi_=>by omega) ?_;intro a k h;unfold Ri at h;split at h;exact⟨[_],rfl,rfl,.trans (by kernel_rfl) h⟩;cases h
def dB:StSh:=⟨(.ptr 0 0::.any::.rof::sqs 4 (.flt::.any::.any::.rof::.int .i64::.int .i64::sqs 17 [])),[some (87,1,.cells [.bool,.rof,.int .i64,.int .i64,.rof,.rof,.flt,.flt,.nil,.nil,.flt])]⟩
def nw:StSh:=⟨(sqs 7 (.flt::sqs 22 [])),[some (87,1,.cells [.bool,.rof,.int .i64,.int .i64,.rof,.rof,.flt,.flt,.nil,.nil,.flt])]⟩
section
variable (N:Nat) (aoo:D2) (anC:yr)
noncomputable abbrev UN:Cx:=⟨Pg,ah [(50,(TL aoo)),(49,(LB anC))],am,N⟩
def dA:List Atom->K->Bool:=λa_ κ=>match a_ with
 | [.fls alZ,.fl t,.fls t10,.int t11,.int t12,.bool s,.fls s_1,.int s_2,.int s_3,.fls s_4,.fls s_5,.fl s_6,.fl s_7,.fl s_8]=>al N (qk N aoo anC alZ t10 t11 s_1 s_2 s_3 s_4 s_5 s_6 s_7 s_8 (λr0 r1=>κ.ext 0 (nw.build [.fl r0,.bool r1,.fls s_1,.int s_2,.int s_3,.fls s_4,.fls s_5,.fl s_6,.fl s_7,.fl s_8]))) (t,t12,s)
 | _=>false
def Uh:Nat->Option Ann:=λb_=>cond (b_==0) (some ⟨⟨[0,2,7,10,11,12],[],[],[]⟩,[(0,⟨[7],[],[],[]⟩)],some ⟨[6],[],[],[]⟩,some (aF [(dB,dA N aoo anC)])⟩) (none)
theorem nq:aH (UN N aoo anC) 1 (Uh N aoo anC) (lp Pg 55 0) (dB,dA N aoo anC):=by
 intro a κ h;simp only at h;unfold dA at h;split at h
 ·rename_i alZ t t10 t11 t12 s s_1 s_2 s_3 s_4 s_5 s_6 s_7 s_8;exact .trans (aJ (λ(v_:Fl × Int × Bool)=>dB.build [.fls alZ,.fl v_.1,.fls t10,.int t11,.int v_.2.1,.bool v_.2.2,.fls s_1,.int s_2,.int s_3,.fls s_4,.fls s_5,.fl s_6,.fl s_7,.fl s_8]) (λv_ K_=>by obtain⟨t,t12,s⟩:=v_; kernel_rfl) N (t,t12,s)) h
 ·cases h
theorem py:aT (UN N aoo anC) 1 (Uh N aoo anC) (lp Pg 55 0):=
 aC [(dB,dA N aoo anC)] (by kernel_rfl) ⟨nq _ _ _,trivial⟩
theorem acQ (av1:ab Pg 50 (TL aoo)) (aub:ab Pg 49 (LB anC)):ab Pg 55 (TK (afd N aoo anC)):=by
 refine av (cx:=(UN N aoo anC)) (rH (aa av1 (aa aub (ac _))) ⟨(eB (by kernel_rfl) (qu aoo)),(eB (by kernel_rfl) (lu anC)),trivial⟩) Nv (Rh (afd N aoo anC)) (Uh N aoo anC) 1 1 (by kernel_rfl) (bK (py _ _ _)) ?_;intro a k h;unfold Rh at h;split at h;exact⟨[_],rfl,rfl,.trans (by kernel_rfl) h⟩;cases h
end
def aj1 (N:Nat) (ams:qe):Nat->Option Ann:=λb_=>none
theorem agc (N:Nat) (ams:qe) (asF:ab Pg 33 (F0 ams)):ab Pg 49 (FQ4 (GQ4 N ams)):=by
 refine av (cx:=⟨Pg,ah [(33,(F0 ams))],am,N⟩) (ai (aa asF (ac _)) (by kernel_rfl)) Xz (aeB (GQ4 N ams)) (aj1 N ams) 0 2 (by kernel_rfl) (λi_ hi_=>by omega) ?_;intro a k h;unfold aeB at h;split at h;exact⟨[_,_],rfl,rfl,.trans (by kernel_rfl) h⟩;cases h
def ahm (N:Nat) (SQ4:rT):Nat->Option Ann:=λb_=>none
theorem aca (N:Nat) (SQ4:rT) (hQ4:ab Pg 49 (FQ4 SQ4)):ab Pg 50 (Rt (aaL N SQ4)):=by
 refine av (cx:=⟨Pg,ah [(49,(FQ4 SQ4))],am,N⟩) (rH (aa hQ4 (ac _)) ⟨(eB (by kernel_rfl) (dz SQ4)),trivial⟩) Xg (Ra (aaL N SQ4)) (ahm N SQ4) 0 2 (by kernel_rfl) (λi_ hi_=>by omega) ?_;intro a k h;unfold Ra at h;split at h;exact⟨[_,_],rfl,rfl,.trans (by kernel_rfl) h⟩;cases h
def dk:StSh:=⟨(.ptr 0 0::.any::.rof::sqs 4 (.flt::.any::.any::.rof::.int .i64::.int .i64::sqs 17 [])),[some (87,1,.cells [.bool,.rof,.int .i64,.int .i64,.rof,.rof,.flt,.flt,.slw 1,.nil,.flt]),some (23,1,.flts)]⟩
def nk:StSh:=⟨(sqs 7 (.flt::sqs 22 [])),[some (87,1,.cells [.bool,.rof,.int .i64,.int .i64,.rof,.rof,.flt,.flt,.slw 1,.nil,.flt]),some (23,1,.flts)]⟩
section
variable (N:Nat) (am2:zS) (SQ4:rT)
noncomputable abbrev G5:Cx:=⟨Pg,ah [(50,(Rt am2)),(49,(FQ4 SQ4))],am,N⟩
def dj:List Atom->K->Bool:=λa_ κ=>match a_ with
 | [.fls amY,.fl t,.fls t10,.int t11,.int t12,.bool s,.fls s_1,.int s_2,.int s_3,.fls s_4,.fls s_5,.fl s_6,.fl s_7,.fl s_8,.fls b1]=>al N (Oj N am2 SQ4 amY t10 t11 s_1 s_2 s_3 s_4 s_5 s_6 s_7 s_8 b1 (λr0 r1=>κ.ext 0 (nk.build [.fl r0,.bool r1,.fls s_1,.int s_2,.int s_3,.fls s_4,.fls s_5,.fl s_6,.fl s_7,.fl s_8,.fls b1]))) (t,t12,s)
 | _=>false
def Ud:Nat->Option Ann:=λb_=>cond (b_==0) (some ⟨⟨[0,2,7,10,11,12],[],[],[]⟩,[(0,⟨[7],[],[],[]⟩)],some ⟨[6],[],[],[]⟩,some (aF [(dk,dj N am2 SQ4)])⟩) (none)
theorem nd:aH (G5 N am2 SQ4) 2 (Ud N am2 SQ4) (lp Pg 55 0) (dk,dj N am2 SQ4):=by
 intro a κ h;simp only at h;unfold dj at h;split at h
 ·rename_i amY t t10 t11 t12 s s_1 s_2 s_3 s_4 s_5 s_6 s_7 s_8 b1;exact .trans (aJ (λ(v_:Fl × Int × Bool)=>dk.build [.fls amY,.fl v_.1,.fls t10,.int t11,.int v_.2.1,.bool v_.2.2,.fls s_1,.int s_2,.int s_3,.fls s_4,.fls s_5,.fl s_6,.fl s_7,.fl s_8,.fls b1]) (λv_ K_=>by obtain⟨t,t12,s⟩:=v_; kernel_rfl) N (t,t12,s)) h
 ·cases h
theorem oV:aT (G5 N am2 SQ4) 2 (Ud N am2 SQ4) (lp Pg 55 0):=
 aC [(dk,dj N am2 SQ4)] (by kernel_rfl) ⟨nd _ _ _,trivial⟩
theorem acF (at4:ab Pg 50 (Rt am2)) (hQ4:ab Pg 49 (FQ4 SQ4)):ab Pg 55 (TH (aa7 N am2 SQ4)):=by
 refine av (cx:=(G5 N am2 SQ4)) (rH (aa at4 (aa hQ4 (ac _))) ⟨(eB (by kernel_rfl) (kv am2)),(eB (by kernel_rfl) (dz SQ4)),trivial⟩) Nt (Rd (aa7 N am2 SQ4)) (Ud N am2 SQ4) 1 2 (by kernel_rfl) (bK (oV _ _ _)) ?_;intro a k h;unfold Rd at h;split at h;exact⟨[_,_],rfl,rfl,.trans (by kernel_rfl) h⟩;cases h
def cN:StSh:=⟨(.ptr 0 0::.any::.slw 1::sqs 4 (.flt::.any::.any::.rof::.int .i64::.int .i64::sqs 17 [])),[some (87,1,.cells [.bool,.rof,.int .i64,.int .i64,.rof,.rof,.flt,.flt,.slw 1,.nil,.flt]),some (23,1,.flts)]⟩
def mw:StSh:=⟨(sqs 7 (.flt::sqs 22 [])),[some (87,1,.cells [.bool,.rof,.int .i64,.int .i64,.rof,.rof,.flt,.flt,.slw 1,.nil,.flt]),some (23,1,.flts)]⟩
def cJ:List Atom->K->Bool:=λa_ κ=>match a_ with
 | [.fl t,.fls t10,.int t11,.int t12,.bool s,.fls s_1,.int s_2,.int s_3,.fls s_4,.fls s_5,.fl s_6,.fl s_7,.fl s_8,.fls alZ]=>al N (Oi N am2 SQ4 t10 t11 s_1 s_2 s_3 s_4 s_5 s_6 s_7 s_8 alZ (λr0 r1=>κ.ext 0 (mw.build [.fl r0,.bool r1,.fls s_1,.int s_2,.int s_3,.fls s_4,.fls s_5,.fl s_6,.fl s_7,.fl s_8,.fls alZ]))) (t,t12,s)
 | _=>false
def Uc:Nat->Option Ann:=λb_=>cond (b_==0) (some ⟨⟨[0,2,7,10,11,12],[],[],[]⟩,[(0,⟨[7],[],[],[]⟩)],some ⟨[6],[],[],[]⟩,some (aF [(cN,cJ N am2 SQ4)])⟩) (none)
theorem mp:aH (G5 N am2 SQ4) 2 (Uc N am2 SQ4) (lp Pg 55 0) (cN,cJ N am2 SQ4):=by
 intro a κ h;simp only at h;unfold cJ at h;split at h
 ·rename_i t t10 t11 t12 s s_1 s_2 s_3 s_4 s_5 s_6 s_7 s_8 alZ;exact .trans (aJ (λ(v_:Fl × Int × Bool)=>cN.build [.fl v_.1,.fls t10,.int t11,.int v_.2.1,.bool v_.2.2,.fls s_1,.int s_2,.int s_3,.fls s_4,.fls s_5,.fl s_6,.fl s_7,.fl s_8,.fls alZ]) (λv_ K_=>by obtain⟨t,t12,s⟩:=v_; kernel_rfl) N (t,t12,s)) h
 ·cases h
theorem nJ:aT (G5 N am2 SQ4) 2 (Uc N am2 SQ4) (lp Pg 55 0):=
 aC [(cN,cJ N am2 SQ4)] (by kernel_rfl) ⟨mp _ _ _,trivial⟩
theorem acy (at4:ab Pg 50 (Rt am2)) (hQ4:ab Pg 49 (FQ4 SQ4)):ab Pg 55 (TG (aa1 N am2 SQ4)):=by
 refine av (cx:=(G5 N am2 SQ4)) (rH (aa at4 (aa hQ4 (ac _))) ⟨(eB (by kernel_rfl) (kv am2)),(eB (by kernel_rfl) (dz SQ4)),trivial⟩) XA (Rb (aa1 N am2 SQ4)) (Uc N am2 SQ4) 1 2 (by kernel_rfl) (bK (nJ _ _ _)) ?_;intro a k h;unfold Rb at h;split at h;exact⟨[_,_],rfl,rfl,.trans (by kernel_rfl) h⟩;cases h
end
def ahJ (N:Nat):Nat->Option Ann:=λb_=>none
theorem acJ (N:Nat):ab Pg 67 (TJ (ae_ N)):=by
 refine av (cx:=⟨Pg,ah [],am,N⟩) (ai (ac _) (by kernel_rfl)) XK (Rf (ae_ N)) (ahJ N) 0 2 (by kernel_rfl) (λi_ hi_=>by omega) ?_;intro a k h;unfold Rf at h;split at h;exact⟨[_,_],rfl,rfl,.trans (by kernel_rfl) h⟩;cases h
def iq:StSh:=⟨(.any::.rof::.flt::.ptr 0 0::sqs 6 (.ptr 1 0::sqs 22 (.int .i64::.int .i64::sqs 64 []))),[some (32,1,.cells [.rof,.int .i64,.int .i64,.rof]),some (87,1,.cells [.bool,.rof,.int .i64,.int .i64,.rof,.rof,.flt,.flt,.slw 2,.nil,.flt]),some (23,1,.flts)]⟩
def tY:StSh:=⟨(.any::.rof::.flt::.ptr 0 0::sqs 6 (.ptr 1 0::sqs 88 [])),[some (32,1,.cells [.rof,.int .i64,.int .i64,.rof]),some (87,1,.cells [.bool,.rof,.int .i64,.int .i64,.rof,.rof,.flt,.flt,.slw 2,.nil,.flt]),some (23,1,.flts)]⟩
section
variable (N:Nat) (alx:eu) (alK:jL) (alP:kC) (aox:D0) (aof:DU) (aom:DS) (SQ4:rT) (aon:DX)
noncomputable abbrev UO:Cx:=⟨Pg,ah [(20,(jH alx)),(66,(o_ alK)),(56,(qo alP)),(55,(Cc (TK aox) (Cc (TH aof) (TG aom) Nt) Nv)),(49,(FQ4 SQ4)),(67,(TJ aon))],am,N⟩
def ik:List Atom->K->Bool:=λa_ κ=>match a_ with
 | [.fls h_2,.fl r_2,.int asl,.int aqx,.fls s_7,.int s_8,.int s_9,.fls arl,.bool u_9,.fls anF,.int aoB,.int aqy,.fls aqd,.fls aqe,.fl aqf,.fl aqg,.fl aqh,.fls b2]=>al N (jG N alx alK alP aox aof aom SQ4 aon h_2 r_2 asl s_7 s_8 s_9 arl anF aoB aqy aqd aqe aqf aqg aqh (λr6 r15=>κ.ext 0 (tY.build [.fls h_2,.fl r_2,.fls s_7,.int s_8,.int s_9,.fls arl,.bool r6,.fls anF,.int aoB,.int aqy,.fls aqd,.fls aqe,.fl aqf,.fl aqg,.fl aqh,.fls r15]))) (aqx,u_9,b2)
 | _=>false
def nC:Nat->Option Ann:=λb_=>cond (b_==0) (some ⟨⟨[1,2,3,10,33,34],[(10,some 8,46)],[],[]⟩,[(0,⟨[1,2,3,10],[],[],[]⟩)],some ⟨[6,7],[],[],[]⟩,some (aF [(iq,ik N alx alK alP aox aof aom SQ4 aon)])⟩) (none)
theorem tG:aH (UO N alx alK alP aox aof aom SQ4 aon) 0 (nC N alx alK alP aox aof aom SQ4 aon) (lp Pg 48 0) (iq,ik N alx alK alP aox aof aom SQ4 aon):=by
 intro a κ h;simp only at h;unfold ik at h;split at h
 ·rename_i h_2 r_2 asl aqx s_7 s_8 s_9 arl u_9 anF aoB aqy aqd aqe aqf aqg aqh b2;exact .trans (aJ (λ(v_:Int × Bool × LF)=>iq.build [.fls h_2,.fl r_2,.int asl,.int v_.1,.fls s_7,.int s_8,.int s_9,.fls arl,.bool v_.2.1,.fls anF,.int aoB,.int aqy,.fls aqd,.fls aqe,.fl aqf,.fl aqg,.fl aqh,.fls v_.2.2]) (λv_ K_=>by obtain⟨aqx,u_9,b2⟩:=v_; kernel_rfl) N (aqx,u_9,b2)) h
 ·cases h
theorem yh:aT (UO N alx alK alP aox aof aom SQ4 aon) 0 (nC N alx alK alP aox aof aom SQ4 aon) (lp Pg 48 0):=
 aC [(iq,ik N alx alK alP aox aof aom SQ4 aon)] (by kernel_rfl) ⟨tG _ _ _ _ _ _ _ _ _,trivial⟩
theorem xZ (aoD:ab Pg 20 (jH alx)) (arv:ab Pg 66 (o_ alK)) (ar5:ab Pg 56 (qo alP)) (avW:ab Pg 55 (TK aox)) (avO:ab Pg 55 (TH aof)) (avJ:ab Pg 55 (TG aom)) (hQ4:ab Pg 49 (FQ4 SQ4)) (avS:ab Pg 67 (TJ aon)):ab Pg 48 (lM (lO N alx alK alP aox aof aom SQ4 aon)):=by
 refine av (cx:=(UO N alx alK alP aox aof aom SQ4 aon)) (rH (aa aoD (aa arv (aa ar5 (aa (qw avW (qw avO avJ)) (aa hQ4 (aa avS (ac _))))))) ⟨(kO (by kernel_rfl)),(kO (by kernel_rfl)),(kO (by kernel_rfl)),(eB (by kernel_rfl) (Vf (qt aox) (Vf (pO aof) (oP aom)))),(eB (by kernel_rfl) (dz SQ4)),(eB (by kernel_rfl) (pr aon)),trivial⟩) rJ (oc (lO N alx alK alP aox aof aom SQ4 aon)) (nC N alx alK alP aox aof aom SQ4 aon) 1 0 (by kernel_rfl) (bK (yh _ _ _ _ _ _ _ _ _)) ?_;intro a k h;unfold oc at h;split at h;exact⟨[],rfl,rfl,.trans (by kernel_rfl) h⟩;cases h
end
def ajZ (N:Nat) (ams:qe):Nat->Option Ann:=λb_=>none
theorem af_ (N:Nat) (ams:qe) (asF:ab Pg 33 (F0 ams)):ab Pg 49 (FQ1 (GQ1 N ams)):=by
 refine av (cx:=⟨Pg,ah [(33,(F0 ams))],am,N⟩) (ai (aa asF (ac _)) (by kernel_rfl)) aeW (aeA (GQ1 N ams)) (ajZ N ams) 0 3 (by kernel_rfl) (λi_ hi_=>by omega) ?_;intro a k h;unfold aeA at h;split at h;exact⟨[_,_,_],rfl,rfl,.trans (by kernel_rfl) h⟩;cases h
def ajY (N:Nat) (SQ1:pm):Nat->Option Ann:=λb_=>none
theorem af9 (N:Nat) (SQ1:pm) (hQ1:ab Pg 49 (FQ1 SQ1)):ab Pg 50 (FQ0 (GQ0 N SQ1)):=by
 refine av (cx:=⟨Pg,ah [(49,(FQ1 SQ1))],am,N⟩) (rH (aa hQ1 (ac _)) ⟨(eB (by kernel_rfl) (bV SQ1)),trivial⟩) aeV (aez (GQ0 N SQ1)) (ajY N SQ1) 0 3 (by kernel_rfl) (λi_ hi_=>by omega) ?_;intro a k h;unfold aez at h;split at h;exact⟨[_,_,_],rfl,rfl,.trans (by kernel_rfl) h⟩;cases h
def pM (N:Nat):Nat->Option Ann:=λb_=>none
theorem oS (N:Nat):ab Pg 28 (eK (ig N)):=by
 refine av (cx:=⟨Pg,ah [],am,N⟩) (ai (ac _) (by kernel_rfl)) jZ (hI (ig N)) (pM N) 0 3 (by kernel_rfl) (λi_ hi_=>by omega) ?_;intro a k h;unfold hI at h;split at h;exact⟨[_,_,_],rfl,rfl,.trans (by kernel_rfl) h⟩;cases h
def C4 (N:Nat):Nat->Option Ann:=λb_=>none
theorem Am (N:Nat):ab Pg 56 (jI (qV N)):=by
 refine av (cx:=⟨Pg,ah [],am,N⟩) (ai (ac _) (by kernel_rfl)) tT (pY (qV N)) (C4 N) 0 1 (by kernel_rfl) (λi_ hi_=>by omega) ?_;intro a k h;unfold pY at h;split at h;exact⟨[_],rfl,rfl,.trans (by kernel_rfl) h⟩;cases h
def ko:StSh:=⟨(.any::.int .i64::.ptr 0 0::.any::.any::.slw 1::sqs 5 (.int .i64::.int .i64::sqs 17 [])),[some (30,1,.cells [.int .i64,.int .i64,.rof]),some (23,1,.flts)]⟩
def yn:StSh:=⟨(sqs 5 (.slw 0::sqs 24 [])),[some (23,1,.flts)]⟩
def kf (N:Nat):List Atom->K->Bool:=λa_ κ=>match a_ with
 | [.int j_1,.int t11,.int t12,.int m,.int m_3,.fls m_4,.fls out]=>al N (vo N j_1 t11 m m_3 m_4 (λr0=>κ.ext 0 (yn.build [.fls r0]))) (t12,out)
 | _=>false
def sJ (N:Nat):Nat->Option Ann:=λb_=>cond (b_==0) (some ⟨⟨[1,2,5,11,12],[],[],[]⟩,[(0,⟨[5],[],[],[]⟩)],some ⟨[4],[],[],[]⟩,some (aF [(ko,kf N)])⟩) (none)
theorem yf (N:Nat):aH ⟨Pg,ah [],am,N⟩ 0 (sJ N) (lp Pg 68 0) (ko,kf N):=by
 intro a κ h;simp only at h;unfold kf at h;split at h
 ·rename_i j_1 t11 t12 m m_3 m_4 out;exact .trans (aJ (λ(v_:Int × LF)=>ko.build [.int j_1,.int t11,.int v_.1,.int m,.int m_3,.fls m_4,.fls v_.2]) (λv_ K_=>by obtain⟨t12,out⟩:=v_; kernel_rfl) N (t12,out)) h
 ·cases h
theorem Df (N:Nat):aT ⟨Pg,ah [],am,N⟩ 0 (sJ N) (lp Pg 68 0):=
 aC [(ko,kf N)] (by kernel_rfl) ⟨yf _,trivial⟩
theorem C9 (N:Nat):ab Pg 68 (qn (qp N)):=by
 refine av (cx:=⟨Pg,ah [],am,N⟩) (ai (ac _) (by kernel_rfl)) w7 (tc (qp N)) (sJ N) 1 0 (by kernel_rfl) (bK (Df _)) ?_;intro a k h;unfold tc at h;split at h;exact⟨[],rfl,rfl,.trans (by kernel_rfl) h⟩;cases h
def cd:StSh:=⟨(.ptr 0 0::.any::.slw 2::sqs 4 (.flt::.any::.any::.sl 1::.int .i64::.int .i64::sqs 17 [])),[some (87,1,.cells [.bool,.rof,.int .i64,.int .i64,.rof,.rof,.flt,.flt,.slw 3,.slw 4,.flt]),some (23,1,.flts),some (23,1,.flts),some (23,1,.flts),some (23,1,.flts)]⟩
def lh:StSh:=⟨(sqs 7 (.flt::sqs 22 [])),[some (87,1,.cells [.bool,.rof,.int .i64,.int .i64,.rof,.rof,.flt,.flt,.slw 3,.slw 4,.flt]),some (23,1,.flts),some (23,1,.flts),some (23,1,.flts),some (23,1,.flts)]⟩
section
variable (N:Nat) (SQ0:qX) (SQ1:pm)
noncomputable abbrev UP:Cx:=⟨Pg,ah [(50,(FQ0 SQ0)),(49,(FQ1 SQ1))],am,N⟩
def bX:List Atom->K->Bool:=λa_ κ=>match a_ with
 | [.fl t,.nat t10,.nat anU,.int t11,.int t12,.bool s,.fls s_1,.int s_2,.int s_3,.fls s_4,.fls s_5,.fl s_6,.fl s_7,.fl s_8,.fls anQ,.fls an8,.fls b3,.fls b4]=>al N (Oh N SQ0 SQ1 t10 anU t11 s_1 s_2 s_3 s_4 s_5 s_6 s_7 s_8 anQ an8 b3 b4 (λr0 r1=>κ.ext 0 (lh.build [.fl r0,.bool r1,.fls s_1,.int s_2,.int s_3,.fls s_4,.fls s_5,.fl s_6,.fl s_7,.fl s_8,.fls anQ,.fls an8,.fls b3,.fls b4]))) (t,t12,s)
 | _=>false
def T7:Nat->Option Ann:=λb_=>cond (b_==0) (some ⟨⟨[0,2,7,10,11,12],[],[],[]⟩,[(0,⟨[7],[],[],[]⟩)],some ⟨[6],[],[],[]⟩,some (aF [(cd,bX N SQ0 SQ1)])⟩) (none)
theorem lb:aH (UP N SQ0 SQ1) 5 (T7 N SQ0 SQ1) (lp Pg 55 0) (cd,bX N SQ0 SQ1):=by
 intro a κ h;simp only at h;unfold bX at h;split at h
 ·rename_i t t10 anU t11 t12 s s_1 s_2 s_3 s_4 s_5 s_6 s_7 s_8 anQ an8 b3 b4;exact .trans (aJ (λ(v_:Fl × Int × Bool)=>cd.build [.fl v_.1,.nat t10,.nat anU,.int t11,.int v_.2.1,.bool v_.2.2,.fls s_1,.int s_2,.int s_3,.fls s_4,.fls s_5,.fl s_6,.fl s_7,.fl s_8,.fls anQ,.fls an8,.fls b3,.fls b4]) (λv_ K_=>by obtain⟨t,t12,s⟩:=v_; kernel_rfl) N (t,t12,s)) h
 ·cases h
theorem mM:aT (UP N SQ0 SQ1) 5 (T7 N SQ0 SQ1) (lp Pg 55 0):=
 aC [(cd,bX N SQ0 SQ1)] (by kernel_rfl) ⟨lb _ _ _,trivial⟩
theorem ab3 (hQ0:ab Pg 50 (FQ0 SQ0)) (hQ1:ab Pg 49 (FQ1 SQ1)):ab Pg 55 (TF (aaE N SQ0 SQ1)):=by
 refine av (cx:=(UP N SQ0 SQ1)) (rH (aa hQ0 (aa hQ1 (ac _))) ⟨(eB (by kernel_rfl) (cS SQ0)),(eB (by kernel_rfl) (bV SQ1)),trivial⟩) W_ (Q_ (aaE N SQ0 SQ1)) (T7 N SQ0 SQ1) 1 5 (by kernel_rfl) (bK (mM _ _ _)) ?_;intro a k h;unfold Q_ at h;split at h;exact⟨[_,_,_,_,_],rfl,rfl,.trans (by kernel_rfl) h⟩;cases h
def de:StSh:=⟨(.ptr 0 0::.any::.any::.any::.ptr 4 0::.ptr 5 0::.ptr 6 0::.ptr 7 0::.int .i64::sqs 7 (.int .i64::.int .i64::.any::.any::.any::.int .i64::.int .i64::sqs 18 [])),[some (87,1,.cells [.bool,.rof,.int .i64,.int .i64,.rof,.rof,.flt,.flt,.slw 2,.slw 3,.flt]),some (23,1,.flts),some (23,1,.flts),some (23,1,.flts),some (30,1,.cells [.int .i64,.int .i64,.slw 1]),some (30,1,.cells [.int .i64,.int .i64,.rof]),some (30,1,.cells [.int .i64,.int .i64,.nil]),some (30,1,.cells [.int .i64,.int .i64,.slw 8]),some (23,1,.flts)]⟩
def mV:StSh:=⟨(.ptr 0 0::.any::.any::.any::.ptr 4 0::.ptr 5 0::.ptr 6 0::.ptr 7 0::sqs 8 (.int .i64::.int .i64::sqs 23 [])),[some (87,1,.cells [.bool,.rof,.int .i64,.int .i64,.rof,.rof,.flt,.flt,.slw 2,.slw 3,.flt]),some (23,1,.flts),some (23,1,.flts),some (23,1,.flts),some (30,1,.cells [.int .i64,.int .i64,.slw 1]),some (30,1,.cells [.int .i64,.int .i64,.rof]),some (30,1,.cells [.int .i64,.int .i64,.nil]),some (30,1,.cells [.int .i64,.int .i64,.slw 8]),some (23,1,.flts)]⟩
end
section
variable (N:Nat) (alv:eA) (alE:kB) (anG:DN)
noncomputable abbrev JW:Cx:=⟨Pg,ah [(56,(jI alv)),(68,(qn alE)),(55,(TF anG))],am,N⟩
def da:List Atom->K->Bool:=λa_ κ=>match a_ with
 | [.int i_1,.int asd,.int apY,.int anx,.int anv,.bool aoH,.fls ao4,.int ao5,.int ao6,.fls ao7,.fls ao8,.fl ao9,.fl ao_,.fl apa,.fls apR,.fls aoK,.fls aqC,.int a_5,.int a_6,.int as2,.int as3,.fls as4,.int atJ,.int atK,.int ar8,.int ar9,.fls b8]=>al N (fz N alv alE anG i_1 asd apY anx ao4 ao5 ao6 ao7 ao8 ao9 ao_ apa apR aoK aqC a_5 a_6 as2 as3 as4 atJ atK ar8 ar9 (λr2 r23=>κ.ext 2 (mV.build [.int asd,.int apY,.bool r2,.fls ao4,.int ao5,.int ao6,.fls ao7,.fls ao8,.fl ao9,.fl ao_,.fl apa,.fls apR,.fls aoK,.fls aqC,.int a_5,.int a_6,.int as2,.int as3,.fls as4,.int atJ,.int atK,.int ar8,.int ar9,.fls r23]))) (anv,aoH,b8)
 | _=>false
def dd:StSh:=⟨(.ptr 0 0::.any::.any::.any::.ptr 4 0::.ptr 5 0::.ptr 6 0::.ptr 7 0::sqs 8 (.int .i64::.int .i64::sqs 23 [])),[some (87,1,.cells [.bool,.rof,.int .i64,.int .i64,.rof,.rof,.flt,.flt,.slw 2,.slw 3,.flt]),some (23,1,.flts),some (23,1,.flts),some (23,1,.flts),some (30,1,.cells [.int .i64,.int .i64,.slw 1]),some (30,1,.cells [.int .i64,.int .i64,.rof]),some (30,1,.cells [.int .i64,.int .i64,.nil]),some (30,1,.cells [.int .i64,.int .i64,.slw 8]),some (23,1,.flts)]⟩
def mU:StSh:=⟨(sqs 6 (.ptr 4 0::.ptr 5 0::sqs 33 [])),[some (87,1,.cells [.bool,.rof,.int .i64,.int .i64,.rof,.rof,.flt,.flt,.slw 2,.slw 3,.flt]),some (23,1,.flts),some (23,1,.flts),some (23,1,.flts),some (30,1,.cells [.int .i64,.int .i64,.nil]),some (30,1,.cells [.int .i64,.int .i64,.slw 6]),some (23,1,.flts)]⟩
def cZ:List Atom->K->Bool:=λa_ κ=>match a_ with
 | [.int arW,.int aok,.bool aoI,.fls apb,.int apc,.int apd,.fls ape,.fls apf,.fl apg,.fl aph,.fl api,.fls aqA,.fls aqB,.fls aqD,.int a_7,.int a_8,.int atn,.int as5,.fls ato,.int as9,.int as_,.int arU,.int arV,.fls asx]=>al N (fw N alv alE anG arW apb apc apd ape apf apg aph api aqA aqB aqD a_7 a_8 atn as5 ato as9 as_ arU arV (λr0 r16=>κ.ext 0 (mU.build [.bool r0,.fls apb,.int apc,.int apd,.fls ape,.fls apf,.fl apg,.fl aph,.fl api,.fls aqA,.fls aqB,.fls aqD,.int as9,.int as_,.int arU,.int arV,.fls r16]))) (aok,aoI,asx)
 | _=>false
def cQ:Nat->Option Ann:=λb_=>cond (b_==2) (some ⟨⟨[0,4,5,6,7,8,16,17,21,22],[(7,some 2,46)],[],[]⟩,[(2,⟨[0,4,5,6,7,16,17],[],[],[]⟩)],some ⟨[6],[],[],[]⟩,some (aF [(de,da N alv alE anG)])⟩) (cond (b_==0) (some ⟨⟨[0,4,5,6,7,16,17],[(7,some 2,46)],[],[]⟩,[(0,⟨[6,7],[],[],[]⟩)],some ⟨[6],[],[],[]⟩,some (aF [(dd,cZ N alv alE anG)])⟩) (none))
theorem mI:aH (JW N alv alE anG) 4 (cQ N alv alE anG) (lp Pg 52 1) (de,da N alv alE anG):=by
 intro a κ h;simp only at h;unfold da at h;split at h
 ·rename_i i_1 asd apY anx anv aoH ao4 ao5 ao6 ao7 ao8 ao9 ao_ apa apR aoK aqC a_5 a_6 as2 as3 as4 atJ atK ar8 ar9 b8;exact .trans (aJ (λ(v_:Int × Bool × LF)=>de.build [.int i_1,.int asd,.int apY,.int anx,.int v_.1,.bool v_.2.1,.fls ao4,.int ao5,.int ao6,.fls ao7,.fls ao8,.fl ao9,.fl ao_,.fl apa,.fls apR,.fls aoK,.fls aqC,.int a_5,.int a_6,.int as2,.int as3,.fls as4,.int atJ,.int atK,.int ar8,.int ar9,.fls v_.2.2]) (λv_ K_=>by obtain⟨anv,aoH,b8⟩:=v_; kernel_rfl) N (anv,aoH,b8)) h
 ·cases h
theorem mH:aH (JW N alv alE anG) 4 (cQ N alv alE anG) (lp Pg 52 0) (dd,cZ N alv alE anG):=by
 intro a κ h;simp only at h;unfold cZ at h;split at h
 ·rename_i arW aok aoI apb apc apd ape apf apg aph api aqA aqB aqD a_7 a_8 atn as5 ato as9 as_ arU arV asx;exact .trans (aJ (λ(v_:Int × Bool × LF)=>dd.build [.int arW,.int v_.1,.bool v_.2.1,.fls apb,.int apc,.int apd,.fls ape,.fls apf,.fl apg,.fl aph,.fl api,.fls aqA,.fls aqB,.fls aqD,.int a_7,.int a_8,.int atn,.int as5,.fls ato,.int as9,.int as_,.int arU,.int arV,.fls v_.2.2]) (λv_ K_=>by obtain⟨aok,aoI,asx⟩:=v_; kernel_rfl) N (aok,aoI,asx)) h
 ·cases h
theorem oy:aT (JW N alv alE anG) 4 (cQ N alv alE anG) (lp Pg 52 1):=
 aC [(de,da N alv alE anG)] (by kernel_rfl) ⟨mI _ _ _ _,trivial⟩
theorem ox:aT (JW N alv alE anG) 4 (cQ N alv alE anG) (lp Pg 52 0):=
 aC [(dd,cZ N alv alE anG)] (by kernel_rfl) ⟨mH _ _ _ _,trivial⟩
theorem ov (aoE:ab Pg 56 (jI alv)) (ar4:ab Pg 68 (qn alE)) (avz:ab Pg 55 (TF anG)):ab Pg 52 (eh (eo N alv alE anG)):=by
 refine av (cx:=(JW N alv alE anG)) (rH (aa aoE (aa ar4 (aa avz (ac _)))) ⟨(kO (by kernel_rfl)),(kO (by kernel_rfl)),(eB (by kernel_rfl) (no anG)),trivial⟩) jS (gD (eo N alv alE anG)) (cQ N alv alE anG) 2 4 (by kernel_rfl) (jV (ox _ _ _ _) (oy _ _ _ _)) ?_;intro a k h;unfold gD at h;split at h;exact⟨[_,_,_,_],rfl,rfl,.trans (by kernel_rfl) h⟩;cases h
def cb:StSh:=⟨(.ptr 0 0::.any::.sl 2::sqs 4 (.flt::.any::.any::.sl 1::.int .i64::.int .i64::sqs 17 [])),[some (87,1,.cells [.bool,.rof,.int .i64,.int .i64,.rof,.rof,.flt,.flt,.slw 3,.slw 4,.flt]),some (23,1,.flts),some (23,1,.flts),some (23,1,.flts),some (23,1,.flts)]⟩
def lg:StSh:=⟨(sqs 7 (.flt::sqs 22 [])),[some (87,1,.cells [.bool,.rof,.int .i64,.int .i64,.rof,.rof,.flt,.flt,.slw 3,.slw 4,.flt]),some (23,1,.flts),some (23,1,.flts),some (23,1,.flts),some (23,1,.flts)]⟩
end
section
variable (N:Nat) (SQ0:qX) (SQ1:pm)
noncomputable abbrev UQ:Cx:=⟨Pg,ah [(50,(FQ0 SQ0)),(49,(FQ1 SQ1))],am,N⟩
def bW:List Atom->K->Bool:=λa_ κ=>match a_ with
 | [.nat apS,.nat apO,.fl t,.nat t10,.nat anU,.int t11,.int t12,.bool s,.fls s_1,.int s_2,.int s_3,.fls s_4,.fls s_5,.fl s_6,.fl s_7,.fl s_8,.fls anQ,.fls aog,.fls b3,.fls b4]=>al N (Og N SQ0 SQ1 apS apO t10 anU t11 s_1 s_2 s_3 s_4 s_5 s_6 s_7 s_8 anQ aog b3 b4 (λr0 r1=>κ.ext 0 (lg.build [.fl r0,.bool r1,.fls s_1,.int s_2,.int s_3,.fls s_4,.fls s_5,.fl s_6,.fl s_7,.fl s_8,.fls anQ,.fls aog,.fls b3,.fls b4]))) (t,t12,s)
 | _=>false
def Uf:Nat->Option Ann:=λb_=>cond (b_==0) (some ⟨⟨[0,2,7,10,11,12],[],[],[]⟩,[(0,⟨[7],[],[],[]⟩)],some ⟨[6],[],[],[]⟩,some (aF [(cb,bW N SQ0 SQ1)])⟩) (none)
theorem la:aH (UQ N SQ0 SQ1) 5 (Uf N SQ0 SQ1) (lp Pg 55 0) (cb,bW N SQ0 SQ1):=by
 intro a κ h;simp only at h;unfold bW at h;split at h
 ·rename_i apS apO t t10 anU t11 t12 s s_1 s_2 s_3 s_4 s_5 s_6 s_7 s_8 anQ aog b3 b4;exact .trans (aJ (λ(v_:Fl × Int × Bool)=>cb.build [.nat apS,.nat apO,.fl v_.1,.nat t10,.nat anU,.int t11,.int v_.2.1,.bool v_.2.2,.fls s_1,.int s_2,.int s_3,.fls s_4,.fls s_5,.fl s_6,.fl s_7,.fl s_8,.fls anQ,.fls aog,.fls b3,.fls b4]) (λv_ K_=>by obtain⟨t,t12,s⟩:=v_; kernel_rfl) N (t,t12,s)) h
 ·cases h
theorem mL:aT (UQ N SQ0 SQ1) 5 (Uf N SQ0 SQ1) (lp Pg 55 0):=
 aC [(cb,bW N SQ0 SQ1)] (by kernel_rfl) ⟨la _ _ _,trivial⟩
theorem acH (hQ0:ab Pg 50 (FQ0 SQ0)) (hQ1:ab Pg 49 (FQ1 SQ1)):ab Pg 55 (TI (aa9 N SQ0 SQ1)):=by
 refine av (cx:=(UQ N SQ0 SQ1)) (rH (aa hQ0 (aa hQ1 (ac _))) ⟨(eB (by kernel_rfl) (cS SQ0)),(eB (by kernel_rfl) (bV SQ1)),trivial⟩) XI (Re (aa9 N SQ0 SQ1)) (Uf N SQ0 SQ1) 1 5 (by kernel_rfl) (bK (mL _ _ _)) ?_;intro a k h;unfold Re at h;split at h;exact⟨[_,_,_,_,_],rfl,rfl,.trans (by kernel_rfl) h⟩;cases h
end
def jW (N:Nat) (alv:eA) (ap6:DW) (SQ0:qX) (SQ1:pm):Nat->Option Ann:=λb_=>none
theorem jo (N:Nat) (alv:eA) (ap6:DW) (SQ0:qX) (SQ1:pm) (aoE:ab Pg 56 (jI alv)) (avQ:ab Pg 55 (TI ap6)) (hQ0:ab Pg 50 (FQ0 SQ0)) (hQ1:ab Pg 49 (FQ1 SQ1)):ab Pg 54 (bB (bC N alv ap6 SQ0 SQ1)):=by
 refine av (cx:=⟨Pg,ah [(56,(jI alv)),(55,(TI ap6)),(50,(FQ0 SQ0)),(49,(FQ1 SQ1))],am,N⟩) (rH (aa aoE (aa avQ (aa hQ0 (aa hQ1 (ac _))))) ⟨(kO (by kernel_rfl)),(eB (by kernel_rfl) (nn ap6)),(eB (by kernel_rfl) (cS SQ0)),(eB (by kernel_rfl) (bV SQ1)),trivial⟩) eI (cO (bC N alv ap6 SQ0 SQ1)) (jW N alv ap6 SQ0 SQ1) 0 8 (by kernel_rfl) (λi_ hi_=>by omega) ?_;intro a k h;unfold cO at h;split at h;exact⟨[_,_,_,_,_,_,_,_],rfl,rfl,.trans (by kernel_rfl) h⟩;cases h
def ci:StSh:=⟨(.int .i64::.fn 54 [.ptr 0 0,.ptr 1 0,.ptr 2 0]::.any::.any::.ptr 8 0::.ptr 9 0::.int .i64::sqs 9 (.int .i64::.int .i64::.any::.any::.any::.int .i64::.int .i64::sqs 27 [])),[some (62,1,.cells [.ptr 3 0]),some (30,1,.cells [.int .i64,.int .i64,.slw 4]),some (30,1,.cells [.int .i64,.int .i64,.slw 5]),some (87,1,.cells [.bool,.rof,.int .i64,.int .i64,.rof,.rof,.flt,.flt,.slw 6,.slw 7,.flt]),some (23,1,.flts),some (23,1,.flts),some (23,1,.flts),some (23,1,.flts),some (30,1,.cells [.int .i64,.int .i64,.nil]),some (30,1,.cells [.int .i64,.int .i64,.slw 10]),some (23,1,.flts)]⟩
def lj:StSh:=⟨(.int .i64::.fn 54 [.ptr 0 0,.ptr 1 0,.ptr 2 0]::.any::.any::.ptr 8 0::.ptr 9 0::sqs 10 (.int .i64::.int .i64::sqs 32 [])),[some (62,1,.cells [.ptr 3 0]),some (30,1,.cells [.int .i64,.int .i64,.slw 4]),some (30,1,.cells [.int .i64,.int .i64,.slw 5]),some (87,1,.cells [.bool,.rof,.int .i64,.int .i64,.rof,.rof,.flt,.flt,.slw 6,.slw 7,.flt]),some (23,1,.flts),some (23,1,.flts),some (23,1,.flts),some (23,1,.flts),some (30,1,.cells [.int .i64,.int .i64,.nil]),some (30,1,.cells [.int .i64,.int .i64,.slw 10]),some (23,1,.flts)]⟩
section
variable (N:Nat) (alj:aN)
noncomputable abbrev JX:Cx:=⟨Pg,ah [(54,(bB alj))],am,N⟩
def bZ:List Atom->K->Bool:=λa_ κ=>match a_ with
 | [.int n_2,.int i,.int apW,.int apX,.int t21,.int t22,.int arA,.int arB,.int arC,.int arD,.bool asv,.fls arM,.int arN,.int arO,.fls arP,.fls arQ,.fl arR,.fl arS,.fl arT,.fls aq_,.fls aop,.fls aqE,.fls as1,.int arn,.int aro,.int aoG,.int aqw,.fls apQ]=>al N (eg N alj n_2 i apW apX t21 arA arB arC arD arM arN arO arP arQ arR arS arT aq_ aop aqE as1 arn aro aoG aqw (λr7 r24=>κ.ext 2 (lj.build [.int n_2,.int apW,.int apX,.int arA,.int arB,.int arC,.int arD,.bool r7,.fls arM,.int arN,.int arO,.fls arP,.fls arQ,.fl arR,.fl arS,.fl arT,.fls aq_,.fls aop,.fls aqE,.fls as1,.int arn,.int aro,.int aoG,.int aqw,.fls r24]))) (t22,asv,apQ)
 | _=>false
def ce:StSh:=⟨(.int .i64::.fn 54 [.ptr 0 0,.ptr 1 0,.ptr 2 0]::.any::.any::.ptr 8 0::.ptr 9 0::sqs 10 (.int .i64::.int .i64::sqs 32 [])),[some (62,1,.cells [.ptr 3 0]),some (30,1,.cells [.int .i64,.int .i64,.slw 4]),some (30,1,.cells [.int .i64,.int .i64,.slw 5]),some (87,1,.cells [.bool,.rof,.int .i64,.int .i64,.rof,.rof,.flt,.flt,.slw 6,.slw 7,.flt]),some (23,1,.flts),some (23,1,.flts),some (23,1,.flts),some (23,1,.flts),some (30,1,.cells [.int .i64,.int .i64,.nil]),some (30,1,.cells [.int .i64,.int .i64,.slw 10]),some (23,1,.flts)]⟩
def li:StSh:=⟨(sqs 4 (.ptr 8 0::.ptr 9 0::sqs 44 [])),[some (62,1,.cells [.ptr 3 0]),some (30,1,.cells [.int .i64,.int .i64,.slw 4]),some (30,1,.cells [.int .i64,.int .i64,.slw 5]),some (87,1,.cells [.bool,.rof,.int .i64,.int .i64,.rof,.rof,.flt,.flt,.slw 6,.slw 7,.flt]),some (23,1,.flts),some (23,1,.flts),some (23,1,.flts),some (23,1,.flts),some (30,1,.cells [.int .i64,.int .i64,.nil]),some (30,1,.cells [.int .i64,.int .i64,.slw 10]),some (23,1,.flts)]⟩
def bY:List Atom->K->Bool:=λa_ κ=>match a_ with
 | [.int n_1,.int t16,.int t17,.int at_,.int arx,.int ary,.int arz,.bool b3,.fls asT,.int aqC,.int aqD,.fls asU,.fls asV,.fl asW,.fl asX,.fl asY,.fls b4,.fls b5,.fls b6,.fls b7,.int t4,.int arc,.int out,.int amv,.fls b10]=>al N (dZ N alj n_1 t16 at_ arx ary arz asT aqC aqD asU asV asW asX asY b4 b5 b6 b7 t4 arc out amv (λr4 r21=>κ.ext 0 (li.build [.int at_,.int arx,.int ary,.int arz,.bool r4,.fls asT,.int aqC,.int aqD,.fls asU,.fls asV,.fl asW,.fl asX,.fl asY,.fls b4,.fls b5,.fls b6,.fls b7,.int t4,.int arc,.int out,.int amv,.fls r21]))) (t17,b3,b10)
 | _=>false
def bS:Nat->Option Ann:=λb_=>cond (b_==2) (some ⟨⟨[0,1,4,5,6,16,17,21,22],[],[],[]⟩,[(2,⟨[0,1,4,5,16,17],[],[],[]⟩)],some ⟨[4],[],[],[]⟩,some (aF [(ci,bZ N alj)])⟩) (cond (b_==0) (some ⟨⟨[0,1,4,5,16,17],[],[],[]⟩,[(0,⟨[4,5],[],[],[]⟩)],some ⟨[4],[],[],[]⟩,some (aF [(ce,bY N alj)])⟩) (none))
theorem ld:aH (JX N alj) 8 (bS N alj) (lp Pg 53 1) (ci,bZ N alj):=by
 intro a κ h;simp only at h;unfold bZ at h;split at h
 ·rename_i n_2 i apW apX t21 t22 arA arB arC arD asv arM arN arO arP arQ arR arS arT aq_ aop aqE as1 arn aro aoG aqw apQ;exact .trans (aJ (λ(v_:Int × Bool × LF)=>ci.build [.int n_2,.int i,.int apW,.int apX,.int t21,.int v_.1,.int arA,.int arB,.int arC,.int arD,.bool v_.2.1,.fls arM,.int arN,.int arO,.fls arP,.fls arQ,.fl arR,.fl arS,.fl arT,.fls aq_,.fls aop,.fls aqE,.fls as1,.int arn,.int aro,.int aoG,.int aqw,.fls v_.2.2]) (λv_ K_=>by obtain⟨t22,asv,apQ⟩:=v_; kernel_rfl) N (t22,asv,apQ)) h
 ·cases h
theorem lc:aH (JX N alj) 8 (bS N alj) (lp Pg 53 0) (ce,bY N alj):=by
 intro a κ h;simp only at h;unfold bY at h;split at h
 ·rename_i n_1 t16 t17 at_ arx ary arz b3 asT aqC aqD asU asV asW asX asY b4 b5 b6 b7 t4 arc out amv b10;exact .trans (aJ (λ(v_:Int × Bool × LF)=>ce.build [.int n_1,.int t16,.int v_.1,.int at_,.int arx,.int ary,.int arz,.bool v_.2.1,.fls asT,.int aqC,.int aqD,.fls asU,.fls asV,.fl asW,.fl asX,.fl asY,.fls b4,.fls b5,.fls b6,.fls b7,.int t4,.int arc,.int out,.int amv,.fls v_.2.2]) (λv_ K_=>by obtain⟨t17,b3,b10⟩:=v_; kernel_rfl) N (t17,b3,b10)) h
 ·cases h
theorem mO:aT (JX N alj) 8 (bS N alj) (lp Pg 53 1):=
 aC [(ci,bZ N alj)] (by kernel_rfl) ⟨ld _ _,trivial⟩
theorem mN:aT (JX N alj) 8 (bS N alj) (lp Pg 53 0):=
 aC [(ce,bY N alj)] (by kernel_rfl) ⟨lc _ _,trivial⟩
theorem mG (anh:ab Pg 54 (bB alj)):ab Pg 53 (dx (dy N alj)):=by
 refine av (cx:=(JX N alj)) (ai (aa anh (ac _)) (by kernel_rfl)) iF (eZ (dy N alj)) (bS N alj) 2 8 (by kernel_rfl) (jV (mN _ _) (mO _ _)) ?_;intro a k h;unfold eZ at h;split at h;exact⟨[_,_,_,_,_,_,_,_],rfl,rfl,.trans (by kernel_rfl) h⟩;cases h
def cD:StSh:=⟨(.any::.ptr 3 0::.ptr 4 0::.int .i64::.ptr 5 0::.int .i64::sqs 11 (.int .i64::.int .i64::.any::.any::.int .i64::.int .i64::sqs 49 [])),[some (87,1,.cells [.bool,.rof,.int .i64,.int .i64,.rof,.rof,.flt,.flt,.slw 1,.slw 2,.flt]),some (23,1,.flts),some (23,1,.flts),some (62,1,.cells [.ptr 0 0]),some (30,1,.cells [.int .i64,.int .i64,.nil]),some (30,1,.cells [.int .i64,.int .i64,.slw 6]),some (23,1,.flts)]⟩
def mh:StSh:=⟨(.any::.ptr 3 0::.ptr 4 0::.int .i64::.ptr 5 0::sqs 12 (.int .i64::.int .i64::sqs 53 [])),[some (87,1,.cells [.bool,.rof,.int .i64,.int .i64,.rof,.rof,.flt,.flt,.slw 1,.slw 2,.flt]),some (23,1,.flts),some (23,1,.flts),some (62,1,.cells [.ptr 0 0]),some (30,1,.cells [.int .i64,.int .i64,.nil]),some (30,1,.cells [.int .i64,.int .i64,.slw 6]),some (23,1,.flts)]⟩
end
section
variable (N:Nat) (SQ0:qX) (SQ1:pm) (alq:bP) (alm:br)
noncomputable abbrev JY:Cx:=⟨Pg,ah [(50,(FQ0 SQ0)),(49,(FQ1 SQ1)),(52,(eh alq)),(53,(dx alm))],am,N⟩
def cB:List Atom->K->Bool:=λa_ κ=>match a_ with
 | [.int n_2,.int i_1,.int apY,.int ase,.int anx,.int anv,.bool aqN,.fls aqj,.int aqk,.int aql,.fls aqm,.fls ao1,.fl aqn,.fl aqo,.fl aqp,.fls apR,.fls aoK,.int atG,.int atH,.int a_4,.int a_5,.fls b6]=>al N (e9 N SQ0 SQ1 alq alm n_2 i_1 apY ase anx aqj aqk aql aqm ao1 aqn aqo aqp apR aoK atG atH a_4 a_5 (λr3 r18=>κ.ext 2 (mh.build [.int n_2,.int apY,.int ase,.bool r3,.fls aqj,.int aqk,.int aql,.fls aqm,.fls ao1,.fl aqn,.fl aqo,.fl aqp,.fls apR,.fls aoK,.int atG,.int atH,.int a_4,.int a_5,.fls r18]))) (anv,aqN,b6)
 | _=>false
def cC:StSh:=⟨(.any::.ptr 3 0::.ptr 4 0::.int .i64::.ptr 5 0::sqs 12 (.int .i64::.int .i64::sqs 53 [])),[some (87,1,.cells [.bool,.rof,.int .i64,.int .i64,.rof,.rof,.flt,.flt,.slw 1,.slw 2,.flt]),some (23,1,.flts),some (23,1,.flts),some (62,1,.cells [.ptr 0 0]),some (30,1,.cells [.int .i64,.int .i64,.nil]),some (30,1,.cells [.int .i64,.int .i64,.slw 6]),some (23,1,.flts)]⟩
def mg:StSh:=⟨(.any::.ptr 3 0::.ptr 4 0::.int .i64::.ptr 5 0::sqs 67 []),[some (87,1,.cells [.bool,.rof,.int .i64,.int .i64,.rof,.rof,.flt,.flt,.slw 1,.slw 2,.flt]),some (23,1,.flts),some (23,1,.flts),some (62,1,.cells [.ptr 0 0]),some (30,1,.cells [.int .i64,.int .i64,.nil]),some (30,1,.cells [.int .i64,.int .i64,.slw 6]),some (23,1,.flts)]⟩
def cA:List Atom->K->Bool:=λa_ κ=>match a_ with
 | [.int n_3,.int aok,.int ap5,.bool ard,.fls arE,.int arF,.int arG,.fls arH,.fls arI,.fl arJ,.fl arK,.fl arL,.fls aqA,.fls aqB,.int as7,.int as8,.int a_6,.int a_7,.fls asw]=>al N (dm N SQ0 SQ1 alq alm n_3 aok arE arF arG arH arI arJ arK arL aqA aqB as7 as8 a_6 a_7 (λr1 r16=>κ.ext 0 (mg.build [.int n_3,.bool r1,.fls arE,.int arF,.int arG,.fls arH,.fls arI,.fl arJ,.fl arK,.fl arL,.fls aqA,.fls aqB,.int as7,.int as8,.int a_6,.int a_7,.fls r16]))) (ap5,ard,asw)
 | _=>false
def ct:Nat->Option Ann:=λb_=>cond (b_==2) (some ⟨⟨[1,2,3,4,5,17,18,21,22],[(4,some 2,46)],[],[]⟩,[(2,⟨[1,2,3,4,17,18],[],[],[]⟩)],some ⟨[2],[],[],[]⟩,some (aF [(cD,cB N SQ0 SQ1 alq alm)])⟩) (cond (b_==0) (some ⟨⟨[1,2,3,4,17,18],[(4,some 2,46)],[],[]⟩,[(0,⟨[1,2,3,4],[],[],[]⟩)],some ⟨[2],[],[],[]⟩,some (aF [(cC,cA N SQ0 SQ1 alq alm)])⟩) (none))
theorem lZ:aH (JY N SQ0 SQ1 alq alm) 3 (ct N SQ0 SQ1 alq alm) (lp Pg 29 1) (cD,cB N SQ0 SQ1 alq alm):=by
 intro a κ h;simp only at h;unfold cB at h;split at h
 ·rename_i n_2 i_1 apY ase anx anv aqN aqj aqk aql aqm ao1 aqn aqo aqp apR aoK atG atH a_4 a_5 b6;exact .trans (aJ (λ(v_:Int × Bool × LF)=>cD.build [.int n_2,.int i_1,.int apY,.int ase,.int anx,.int v_.1,.bool v_.2.1,.fls aqj,.int aqk,.int aql,.fls aqm,.fls ao1,.fl aqn,.fl aqo,.fl aqp,.fls apR,.fls aoK,.int atG,.int atH,.int a_4,.int a_5,.fls v_.2.2]) (λv_ K_=>by obtain⟨anv,aqN,b6⟩:=v_; kernel_rfl) N (anv,aqN,b6)) h
 ·cases h
theorem lY:aH (JY N SQ0 SQ1 alq alm) 3 (ct N SQ0 SQ1 alq alm) (lp Pg 29 0) (cC,cA N SQ0 SQ1 alq alm):=by
 intro a κ h;simp only at h;unfold cA at h;split at h
 ·rename_i n_3 aok ap5 ard arE arF arG arH arI arJ arK arL aqA aqB as7 as8 a_6 a_7 asw;exact .trans (aJ (λ(v_:Int × Bool × LF)=>cC.build [.int n_3,.int aok,.int v_.1,.bool v_.2.1,.fls arE,.int arF,.int arG,.fls arH,.fls arI,.fl arJ,.fl arK,.fl arL,.fls aqA,.fls aqB,.int as7,.int as8,.int a_6,.int a_7,.fls v_.2.2]) (λv_ K_=>by obtain⟨ap5,ard,asw⟩:=v_; kernel_rfl) N (ap5,ard,asw)) h
 ·cases h
theorem nu:aT (JY N SQ0 SQ1 alq alm) 3 (ct N SQ0 SQ1 alq alm) (lp Pg 29 1):=
 aC [(cD,cB N SQ0 SQ1 alq alm)] (by kernel_rfl) ⟨lZ _ _ _ _ _,trivial⟩
theorem nt:aT (JY N SQ0 SQ1 alq alm) 3 (ct N SQ0 SQ1 alq alm) (lp Pg 29 0):=
 aC [(cC,cA N SQ0 SQ1 alq alm)] (by kernel_rfl) ⟨lY _ _ _ _ _,trivial⟩
theorem np (hQ0:ab Pg 50 (FQ0 SQ0)) (hQ1:ab Pg 49 (FQ1 SQ1)) (aor:ab Pg 52 (eh alq)) (an9:ab Pg 53 (dx alm)):ab Pg 29 (dG (dH N SQ0 SQ1 alq alm)):=by
 refine av (cx:=(JY N SQ0 SQ1 alq alm)) (rH (aa hQ0 (aa hQ1 (aa aor (aa an9 (ac _))))) ⟨(eB (by kernel_rfl) (cS SQ0)),(eB (by kernel_rfl) (bV SQ1)),(kO (by kernel_rfl)),(kO (by kernel_rfl)),trivial⟩) jb (fu (dH N SQ0 SQ1 alq alm)) (ct N SQ0 SQ1 alq alm) 2 3 (by kernel_rfl) (jV (nt _ _ _ _ _) (nu _ _ _ _ _)) ?_;intro a k h;unfold fu at h;split at h;exact⟨[_,_,_],rfl,rfl,.trans (by kernel_rfl) h⟩;cases h
end
def ahT (N:Nat):Nat->Option Ann:=λb_=>none
theorem acZ (N:Nat):ab Pg 67 (TM (abi N)):=by
 refine av (cx:=⟨Pg,ah [],am,N⟩) (ai (ac _) (by kernel_rfl)) XW (Rj (abi N)) (ahT N) 0 3 (by kernel_rfl) (λi_ hi_=>by omega) ?_;intro a k h;unfold Rj at h;split at h;exact⟨[_,_,_],rfl,rfl,.trans (by kernel_rfl) h⟩;cases h
def oM (N:Nat) (ap7:D4) (alD:cY):Nat->Option Ann:=λb_=>none
theorem nH (N:Nat) (ap7:D4) (alD:cY) (av5:ab Pg 67 (TM ap7)) (an_:ab Pg 41 (gI alD)):ab Pg 51 (dN (dP N ap7 alD)):=by
 refine av (cx:=⟨Pg,ah [(67,(TM ap7)),(41,(gI alD))],am,N⟩) (rH (aa av5 (aa an_ (ac _))) ⟨(eB (by kernel_rfl) (oQ ap7)),(kO (by kernel_rfl)),trivial⟩) jm (fR (dP N ap7 alD)) (oM N ap7 alD) 0 5 (by kernel_rfl) (λi_ hi_=>by omega) ?_;intro a k h;unfold fR at h;split at h;exact⟨[_,_,_,_,_],rfl,rfl,.trans (by kernel_rfl) h⟩;cases h
end Go.Proofs.YtldenpmpmifnlaaGreatDoor
