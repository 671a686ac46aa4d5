/-
  THE TIES: each printed meaning is what the program does (written by program).
  Conditions: none.
-/
import Derived.Test.YteifemaagdeomaaGreatDoorGs
set_option linter.unusedVariables false
namespace Go.Proofs.YteifemaagdeomaaGreatDoor
open Go Go.Mach Go.Proofs
set_option maxRecDepth 50000
section
variable (N:Nat) (aug:BJ) (ar2:aY) (avi:HI) (avj:HP) (atQ:wC) (avs:HM) (au3:CK) (avr:HJ) (avq:HH)
noncomputable abbrev N7:Cx:=⟨Pg,ao [(151,(TC aug)),(131,(dz ar2)),(152,(agW avi)),(153,(ag5 avj)),(155,(MX atQ)),(154,(ag2 avs)),(156,(YH au3)),(158,(agY avr)),(157,(agT avq))],aB,N⟩
def io (N:Nat) (aug:BJ) (ar2:aY) (avi:HI) (avj:HP) (atQ:wC) (avs:HM) (au3:CK) (avr:HJ) (avq:HH):Nat->Option Ann:=λb_=>none
def lw (d_:List V) (u_:List (Option Blk)) (x:Fl) (p:Bool) (p_1 p_2:Int) (n:Bool) (n_1:LI):St:=⟨((dq d_ 0)::(dq d_ 1)::.ptr 0 0::.ptr 1 0::(dq d_ 2)::.ptr 2 0::dqs d_ 3 43 []),[some ⟨179,1,.cells [.val (.pointer none)]⟩,some ⟨198,1,.cells [.bool p,vwu p_1,vwi p_2]⟩,some ⟨204,1,.cells [.bool n,vwr n_1]⟩]⟩
theorem yc (d_:List V) (u_:List (Option Blk)) (x:Fl) (p:Bool) (p_1 p_2:Int) (n:Bool) (n_1:LI) (c_:KV):aQ (N7 N aug ar2 avi avj atQ avs au3 avr avq) 0 (io N aug ar2 avi avj atQ avs au3 avr avq) ((cds Pg 132).drop 6) 0 (lw d_ u_ x p p_1 p_2 n n_1) (kB true Pg 132 0 c_)=dR N aug ar2 avi avj atQ avs au3 avr avq x p p_1 p_2 n n_1 (λr0 r1 r2 r3=>c_ (.agg [.rp [.bool r0,vwr r1,.bool r2,vwr r3] 0]) []):=by kernel_rfl
theorem xT (x:Fl) (c_:KV) (κn_:St->Bool):aQ (N7 N aug ar2 avi avj atQ avs au3 avr avq) 0 (io N aug ar2 avi avj atQ avs au3 avr avq) (sg Pg 132 0 6) 0 (st0 Pg 132 (gS.args [.fl x]) []) { (kB true Pg 132 0 c_)with nrm:=κn_ } = (aug x (λcr nr ask asl=>ar2 (asl==0) 4 (avi nr false (λasD nsr=>cond cr (avj asD nsr (λatH asj=>κn_ (lw (.flt x::.any::vwi asl::.any::.tup [.agg [.bool cr,vwu nr,vwi ask],vwi asl]::.flt x::.tup [.agg [.bool cr,vwu nr,vwi ask],vwi asl]::.agg [.bool cr,vwu nr,vwi ask]::vwi asl::vwi asl::.bool (asl==0)::.tup []::.ptr 2 0::.ptr 1 1::vwu nr::.ptr 2 0::.ptr 1 0::.bool true::.ptr 2 0::.ptr 2 0::.ptr 2 0::vqs 25 []) [] x cr nr ask atH asj))) (κn_ (lw (.flt x::.any::vwi asl::.any::.tup [.agg [.bool cr,vwu nr,vwi ask],vwi asl]::.flt x::.tup [.agg [.bool cr,vwu nr,vwi ask],vwi asl]::.agg [.bool cr,vwu nr,vwi ask]::vwi asl::vwi asl::.bool (asl==0)::.tup []::.ptr 2 0::.ptr 1 1::vwu nr::.ptr 2 0::.ptr 1 0::.bool false::vqs 28 []) [] x cr nr ask asD nsr)))))):=by kernel_rfl
theorem yd (x:Fl) (c_:KV):aQ (N7 N aug ar2 avi avj atQ avs au3 avr avq) 0 (io N aug ar2 avi avj atQ avs au3 avr avq) ((cds Pg 132).drop 0) 0 (st0 Pg 132 (gS.args [.fl x]) []) (kB true Pg 132 0 c_)=gr N aug ar2 avi avj atQ avs au3 avr avq x (λr0 r1 r2 r3=>c_ (.agg [.rp [.bool r0,vwr r1,.bool r2,vwr r3] 0]) []):=by rw[cY 0 6 6 rfl];refine(xT N aug ar2 avi avj atQ avs au3 avr avq x c_ _).trans ?_;simp only[yc];kernel_rfl
theorem AC (x:Fl) (c_:KV):qw true (N7 N aug ar2 avi avj atQ avs au3 avr avq) (io N aug ar2 avi avj atQ avs au3 avr avq) 132 (gS.args [.fl x]) [] c_=gr N aug ar2 avi avj atQ avs au3 avr avq x (λr0 r1 r2 r3=>c_ (.agg [.rp [.bool r0,vwr r1,.bool r2,vwr r3] 0]) []):=
 (iC (by kernel_rfl)).trans (yd N aug ar2 avi avj atQ avs au3 avr avq x c_)
theorem xR (aD2:ab Pg 151 (TC aug)) (atI:ab Pg 131 (dz ar2)) (aEU:ab Pg 152 (agW avi)) (aE4:ab Pg 153 (ag5 avj)) (aBy:ab Pg 155 (MX atQ)) (aE2:ab Pg 154 (ag2 avs)) (aCs:ab Pg 156 (YH au3)) (aEX:ab Pg 158 (agY avr)) (aER:ab Pg 157 (agT avq)):ab Pg 132 (kx (gr N aug ar2 avi avj atQ avs au3 avr avq)):=by
 refine aT (md:=true) (cx:=(N7 N aug ar2 avi avj atQ avs au3 avr avq)) (aD (aa aD2 (aa atI (aa aEU (aa aE4 (aa aBy (aa aE2 (aa aCs (aa aEX (aa aER (ae _)))))))))) (by kernel_rfl)) gS (na (gr N aug ar2 avi avj atQ avs au3 avr avq)) (io N aug ar2 avi avj atQ avs au3 avr avq) 0 0 (by kernel_rfl) (λi_ hi_=>by omega) ?_;intro a k h;unfold na at h;split at h;exact⟨[],rfl,rfl,(AC _ _ _ _ _ _ _ _ _ _ _ _).trans h⟩;cases h
def d7:StSh:=⟨(.any::.any::.ptr 0 0::.any::.ptr 1 0::sqs 14 (.rof::.int .i64::.int .i64::sqs 12 [])),[some (161,1,.cells [.int .i64,.int .i64,.nil]),some (161,1,.cells [.int .i64,.int .i64,.slw 2]),some (179,1,.recs RT1)]⟩
def mo:StSh:=⟨(.any::.any::.ptr 0 0::.any::.ptr 1 0::sqs 29 []),[some (161,1,.cells [.int .i64,.int .i64,.nil]),some (161,1,.cells [.int .i64,.int .i64,.slw 2]),some (179,1,.recs RT1)]⟩
end
section
variable (N:Nat) (att:vz) (ar2:aY) (asg:f_)
noncomputable abbrev Ul:Cx:=⟨Pg,ao [(71,(M6 att)),(131,(dz ar2)),(132,(kx asg))],aB,N⟩
def gj:List Atom->K->Bool:=λa_ κ=>match a_ with
 | [.fls ayY,.int azk,.int auU,.int axa,.int axb,.int g_2,.int g_3,.recs t7_ b2]=>RT.cast RT1 t7_ b2 (λb2=>ah N (f8 N att ar2 asg ayY azk axa axb g_2 g_3 (λr4=>κ.ext 0 (mo.build [.int axa,.int axb,.int g_2,.int g_3,.recs RT1 r4]))) (auU,b2)) false
 | _=>false
def gO:Nat->Option Ann:=λb_=>cond (b_==0) (some ⟨⟨[2,4,19,20,21],[(4,some 2,358)],[],[]⟩,[(0,⟨[2,4],[],[],[]⟩)],some ⟨[2],[],[],[]⟩,some (ay [(d7,gj N att ar2 asg)])⟩) (none)
theorem un (κ:K) (ayY:LF) (azk auU axa axb g_2 g_3:Int) (b2:List RY1):rE N (λs k=>dA (Ul N att ar2 asg) 0 (gO N att ar2 asg) (lp Pg 117 0).2 (lp Pg 117 0).1 s (kL Pg 0 ((gO N att ar2 asg) (lp Pg 117 0).1) κ k)) (d7.build [.fls ayY,.int azk,.int auU,.int axa,.int axb,.int g_2,.int g_3,.recs RT1 b2])=ah N (f8 N att ar2 asg ayY azk axa axb g_2 g_3 (λr4=>κ.ext 0 (mo.build [.int axa,.int axb,.int g_2,.int g_3,.recs RT1 r4]))) (auU,b2):=
 aA (λ(v_:Int × List RY1)=>d7.build [.fls ayY,.int azk,.int v_.1,.int axa,.int axb,.int g_2,.int g_3,.recs RT1 v_.2]) (λv_ K_=>by obtain⟨auU,b2⟩:=v_; kernel_rfl) N (auU,b2)
theorem tK:az (Ul N att ar2 asg) 0 (gO N att ar2 asg) (lp Pg 117 0) (d7,gj N att ar2 asg):=by
 intro a κ h;simp only at h;unfold gj at h;split at h
 ·obtain⟨e_,h⟩:=RT.cast_inv h (by decide); subst e_; exact(un _ _ _ _ _ _ _ _ _ _ _ _ _).trans h
 ·cases h
theorem w5:aC (Ul N att ar2 asg) 0 (gO N att ar2 asg) (lp Pg 117 0):=
 au [(d7,gj N att ar2 asg)] (by kernel_rfl) ⟨tK _ _ _ _,trivial⟩
theorem wV (aAA:ab Pg 71 (M6 att)) (atI:ab Pg 131 (dz ar2)) (axt:ab Pg 132 (kx asg)):ab Pg 117 (jP (jQ N att ar2 asg)):=by
 refine bH (cx:=(Ul N att ar2 asg)) (aD (aa aAA (aa atI (aa axt (ae _)))) (by kernel_rfl)) pJ (mj (jQ N att ar2 asg)) (gO N att ar2 asg) 1 0 (by kernel_rfl) (aJ (w5 _ _ _ _)) ?_;intro a k h;unfold mj at h;split at h;exact⟨[],rfl,rfl,.trans (by kernel_rfl) h⟩;cases h
end
theorem tG (N:Nat):ab Pg 159 (bR (j9 N)):=by
 refine gfV N (ae _) 1 ?_;intro a k h;unfold nC at h;split at h
 ·obtain⟨e_,h⟩:=RT.cast_inv h (by decide); subst e_; exact⟨[_],rfl,rfl,.trans (by kernel_rfl) h⟩
 ·cases h
theorem aiq (N:Nat):ab Pg 217 (P0 (amz N)):=by
 refine gfZ N false (ae _) 0 ?_;intro a k h;unfold alS at h;split at h;exact⟨[],rfl,rfl,.trans (by kernel_rfl) h⟩;cases h
theorem aii (N:Nat) (auF:yv) (au5:CR) (aBM:ab Pg 185 (Wd auF)) (aCw:ab Pg 185 (YJ au5)):ab Pg 191 (Wf (amw N auF au5)):=by
 refine gfZ N false (aa (mw (sh:=Mu) aBM aCw) (ae _)) 1 ?_;intro a k h;unfold alP at h;split at h;exact⟨[_],rfl,rfl,.trans (by kernel_rfl) h⟩;cases h
theorem ach (N:Nat) (asJ:mQ) (avd:vB) (avZ:yx) (ax3:ab Pg 187 (GD asJ)) (azW:ab Pg 217 (P0 avd)) (aAE:ab Pg 191 (Wf avZ)):ab Pg 213 (X4 (Ze N asJ avd avZ)):=by
 refine gfZ N false (aa ax3 (aa azW (aa aAE (ae _)))) 1 ?_;intro a k h;unfold afn at h;split at h;exact⟨[_],rfl,rfl,.trans (by kernel_rfl) h⟩;cases h
theorem abZ (N:Nat):ab Pg 217 (XX (Y5 N)):=by
 refine gfZ N false (ae _) 1 ?_;intro a k h;unfold afb at h;split at h;exact⟨[_],rfl,rfl,.trans (by kernel_rfl) h⟩;cases h
section
variable (N:Nat) (asG:tv)
noncomputable abbrev N8:Cx:=⟨Pg,ao [(210,(M5 asG))],aB,N⟩
def H3 (N:Nat) (asG:tv):Nat->Option Ann:=λb_=>none
def Rs (d_:List V) (u_:List (Option Blk)) (x y:LI):St:=⟨(vwr x::vwr y::dqs d_ 0 22 []),[]⟩
theorem anR (d_:List V) (u_:List (Option Blk)) (x y:LI) (c_:KV):aQ (N8 N asG) 0 (H3 N asG) ((cds Pg 229).drop 3) 0 (Rs d_ u_ x y) (kB false Pg 229 0 c_)=Nm N asG x y (λr0=>c_ (vwr r0) []):=by kernel_rfl
theorem J2 (x y:LI) (c_:KV) (κn_:St->Bool):aQ (N8 N asG) 0 (H3 N asG) (sg Pg 229 0 3) 0 (st0 Pg 229 (DR.args [.ints x,.ints y]) []) { (kB false Pg 229 0 c_)with nrm:=κn_ } = (cond ((((y.length:Nat):Int)==1)==true) (inR 0 y.length&&cond ((y.getD 0 0)==1) (c_ (vwr x) []) (κn_ (Rs (.any::.any::.nil::.any::.any::vwr y::vwi ((y.length:Nat):Int)::.bool (((y.length:Nat):Int)==1)::.bool true::vwr y::.pi .u64 y 0::vwu (y.getD 0 0)::.bool ((y.getD 0 0)==1)::.bool false::vqs 8 []) [] x y))) (κn_ (Rs (.any::.any::.nil::.any::.any::vwr y::vwi ((y.length:Nat):Int)::.bool (((y.length:Nat):Int)==1)::.bool false::.val undef::.val undef::.val undef::.val undef::.bool false::vqs 8 []) [] x y))):=by kernel_rfl
theorem J7 (x y:LI) (c_:KV):aQ (N8 N asG) 0 (H3 N asG) ((cds Pg 229).drop 0) 0 (st0 Pg 229 (DR.args [.ints x,.ints y]) []) (kB false Pg 229 0 c_)=Kq N asG x y (λr0=>c_ (vwr r0) []):=by rw[cY 0 3 3 rfl];refine(J2 N asG x y c_ _).trans ?_;simp only[anR];kernel_rfl
theorem am4 (x y:LI) (c_:KV):qw false (N8 N asG) (H3 N asG) 229 (DR.args [.ints x,.ints y]) [] c_=Kq N asG x y (λr0=>c_ (vwr r0) []):=
 (iC (by kernel_rfl)).trans (J7 N asG x y c_)
theorem acD (aBK:ab Pg 210 (M5 asG)):ab Pg 229 (M0 (Kq N asG)):=by
 refine aT (md:=false) (cx:=(N8 N asG)) (aD (aa aBK (ae _)) (by kernel_rfl)) DR (Sy (Kq N asG)) (H3 N asG) 0 0 (by kernel_rfl) (λi_ hi_=>by omega) ?_;intro a k h;unfold Sy at h;split at h;exact⟨[],rfl,rfl,(am4 _ _ _ _ _).trans h⟩;cases h
def nL:StSh:=⟨(.roi .u64::.roi .u64::.any::.any::.any::.int .i64::.slw 0::.int .u64::sqs 9 (.int .i64::.int .i64::sqs 23 [])),[some (23,1,.ints .u64)]⟩
def E7:StSh:=⟨(sqs 5 (.int .i64::.slw 0::.int .u64::sqs 34 [])),[some (23,1,.ints .u64)]⟩
end
section
variable (N:Nat) (as6:pO) (asn:mP) (SQ9:lQ)
noncomputable abbrev aaM:Cx:=⟨Pg,ao [(232,(E9 as6)),(228,(FX asn)),(207,(FQ9 SQ9))],aB,N⟩
def nK:List Atom->K->Bool:=λa_ κ=>match a_ with
 | [.ints x_1,.ints y_1,.int n,.int carry,.int t17,.int t18,.ints z]=>ah N (sM N as6 asn SQ9 x_1 y_1 n t17 (λr1 r2=>κ.ext 0 (E7.build [.int n,.int r1,.ints r2]))) (carry,t18,z)
 | _=>false
def Qx:Nat->Option Ann:=λb_=>cond (b_==0) (some ⟨⟨[0,1,5,6,7,17,18],[],[],[]⟩,[(0,⟨[5,6,7],[],[],[]⟩)],some ⟨[4],[],[],[]⟩,some (ay [(nL,nK N as6 asn SQ9)])⟩) (none)
theorem Ey:az (aaM N as6 asn SQ9) 0 (Qx N as6 asn SQ9) (lp Pg 238 0) (nL,nK N as6 asn SQ9):=by
 intro a κ h;simp only at h;unfold nK at h;split at h
 ·rename_i x_1 y_1 n carry t17 t18 z;exact .trans (aA (λ(v_:Int × Int × LI)=>nL.build [.ints x_1,.ints y_1,.int n,.int v_.1,.int t17,.int v_.2.1,.ints v_.2.2]) (λv_ K_=>by obtain⟨carry,t18,z⟩:=v_; kernel_rfl) N (carry,t18,z)) h
 ·cases h
theorem LS:aC (aaM N as6 asn SQ9) 0 (Qx N as6 asn SQ9) (lp Pg 238 0):=
 au [(nL,nK N as6 asn SQ9)] (by kernel_rfl) ⟨Ey _ _ _ _,trivial⟩
theorem adg (aza:ab Pg 232 (E9 as6)) (azd:ab Pg 228 (FX asn)) (hQ9:ab Pg 207 (FQ9 SQ9)):ab Pg 238 (YD (Ua N as6 asn SQ9)):=by
 refine aT (md:=false) (cx:=(aaM N as6 asn SQ9)) (aD (aa aza (aa azd (aa hQ9 (ae _)))) (by kernel_rfl)) VV (SP (Ua N as6 asn SQ9)) (Qx N as6 asn SQ9) 1 0 (by kernel_rfl) (aJ (LS _ _ _ _)) ?_;intro a k h;unfold SP at h;split at h;exact⟨[],rfl,rfl,.trans (by kernel_rfl) h⟩;cases h
end
theorem aiO (N:Nat) (ayR:Hz) (awt:CU) (asq:pF) (avE:BI) (aEj:ab Pg 238 (YD ayR)) (aBR:ab Pg 185 (YM awt)) (aAy:ab Pg 209 (Lu asq)) (aBF:ab Pg 233 (TA avE)):ab Pg 230 (ag4 (amM N ayR awt asq avE)):=by
 refine gfZ N false (aa aEj (aa aBR (aa aAy (aa aBF (ae _))))) 1 ?_;intro a k h;unfold al7 at h;split at h;exact⟨[_],rfl,rfl,.trans (by kernel_rfl) h⟩;cases h
theorem abN (N:Nat) (avd:vB) (aye:GR) (at8:vC) (aup:wE) (aun:ti) (avo:vA) (axW:HO) (asJ:mQ) (avZ:yx) (azW:ab Pg 217 (P0 avd)) (aDl:ab Pg 217 (XX aye)) (aAG:ab Pg 208 (P2 at8)) (az_:ab Pg 229 (M0 aup)) (azc:ab Pg 192 (Kh aun)) (azV:ab Pg 185 (PZ avo)) (aCC:ab Pg 230 (ag4 axW)) (ax3:ab Pg 187 (GD asJ)) (aAE:ab Pg 191 (Wf avZ)):ab Pg 212 (XR (YZ N avd aye at8 aup aun avo axW asJ avZ)):=by
 refine gfZ N false (aa (mw (sh:=aeI) azW aDl) (aa aAG (aa az_ (aa azc (aa azV (aa aCC (aa ax3 (aa aAE (ae _))))))))) 2 ?_;intro a k h;unfold ae4 at h;split at h;exact⟨[_,_],rfl,rfl,.trans (by kernel_rfl) h⟩;cases h
theorem acp (N:Nat) (ayl:GY) (ax9:GL) (aDy:ab Pg 213 (X4 ayl)) (aDc:ab Pg 212 (XR ax9)):ab Pg 193 (Ya (Zk N ayl ax9)):=by
 refine gfZ N false (aa aDy (aa aDc (ae _))) 1 ?_;intro a k h;unfold aft at h;split at h;exact⟨[_],rfl,rfl,.trans (by kernel_rfl) h⟩;cases h
theorem sq (N:Nat) (ays:G6) (aDF:ab Pg 193 (Ya ays)):ab Pg 160 (dp (jE N ays)):=by
 refine gfZ N true (aa aDF (ae _)) 0 ?_;intro a k h;unfold mT at h;split at h;exact⟨[],rfl,rfl,.trans (by kernel_rfl) h⟩;cases h
theorem acM (N:Nat):ab Pg 214 (Yi (Zy N)):=by
 refine gfZ N false (ae _) 0 ?_;intro a k h;unfold afI at h;split at h;exact⟨[],rfl,rfl,.trans (by kernel_rfl) h⟩;cases h
theorem acN (N:Nat) (ayA:He) (aDU:ab Pg 214 (Yi ayA)):ab Pg 194 (Yj (Zz N ayA)):=by
 refine gfZ N false (aa aDU (ae _)) 0 ?_;intro a k h;unfold afJ at h;split at h;exact⟨[],rfl,rfl,.trans (by kernel_rfl) h⟩;cases h
theorem sv (N:Nat) (ayB:Hf) (aDV:ab Pg 194 (Yj ayB)):ab Pg 161 (dr (jH N ayB)):=by
 refine gfV N (aa aDV (ae _)) 0 ?_;intro a k h;unfold mW at h;split at h;exact⟨[],rfl,rfl,.trans (by kernel_rfl) h⟩;cases h
def bL:StSh:=⟨(.any::.ptr 1 0::.int .i64::.any::.any::.int .i64::.int .i64::.any::.any::.int .i64::.int .i64::sqs 16 []),[some (179,1,.recs RT1),some (161,1,.cells [.int .i64,.int .i64,.slw 0])]⟩
def ir:StSh:=⟨(.any::.ptr 1 0::.any::.any::.any::.int .i64::.int .i64::sqs 20 []),[some (179,1,.recs RT1),some (161,1,.cells [.int .i64,.int .i64,.slw 0])]⟩
section
variable (N:Nat) (arW:aO) (ar0:bf) (arY:bg) (ar2:aY)
noncomputable abbrev Ig:Cx:=⟨Pg,ao [(159,(bR arW)),(160,(dp ar0)),(161,(dr arY)),(131,(dz ar2))],aB,N⟩
def cO:List Atom->K->Bool:=λa_ κ=>match a_ with
 | [.int i,.int aAq,.int axy,.int t9,.int t10,.recs t5_ ave,.int g_3,.int g_4]=>RT.cast RT1 t5_ ave (λave=>ah N (cz N arW ar0 arY ar2 i aAq axy t9 ave g_3 g_4 (κ.ext 2 (ir.build [.int aAq,.int axy,.recs RT1 ave,.int g_3,.int g_4]))) t10) false
 | _=>false
def bK:StSh:=⟨(.any::.ptr 1 0::.any::.any::.any::.int .i64::.int .i64::sqs 20 []),[some (179,1,.recs RT1),some (161,1,.cells [.int .i64,.int .i64,.slw 0])]⟩
def iq:StSh:=⟨(sqs 27 []),[some (179,1,.recs RT1)]⟩
def cN:List Atom->K->Bool:=λa_ κ=>match a_ with
 | [.int t5,.int t6,.recs t2_ b0,.int g,.int g_2]=>RT.cast RT1 t2_ b0 (λb0=>ah N (cw N arW ar0 arY ar2 t5 b0 g g_2 (κ.ext 0 (iq.build [.recs RT1 b0]))) t6) false
 | _=>false
def aP:Nat->Option Ann:=λb_=>cond (b_==2) (some ⟨⟨[1,2,5,6,9,10],[],[],[]⟩,[(2,⟨[1,5,6],[],[],[]⟩)],some ⟨[],[],[],[]⟩,some (ay [(bL,cO N arW ar0 arY ar2)])⟩) (cond (b_==0) (some ⟨⟨[1,5,6],[],[],[]⟩,[(0,⟨[],[],[],[]⟩)],some ⟨[],[],[],[]⟩,some (ay [(bK,cN N arW ar0 arY ar2)])⟩) (none))
theorem nk (κ:K) (i aAq axy t9 t10:Int) (ave:List RY1) (g_3 g_4:Int):rE N (λs k=>dA (Ig N arW ar0 arY ar2) 1 (aP N arW ar0 arY ar2) (lp Pg 133 1).2 (lp Pg 133 1).1 s (kL Pg 1 ((aP N arW ar0 arY ar2) (lp Pg 133 1).1) κ k)) (bL.build [.int i,.int aAq,.int axy,.int t9,.int t10,.recs RT1 ave,.int g_3,.int g_4])=ah N (cz N arW ar0 arY ar2 i aAq axy t9 ave g_3 g_4 (κ.ext 2 (ir.build [.int aAq,.int axy,.recs RT1 ave,.int g_3,.int g_4]))) t10:=
 aA (λv_=>bL.build [.int i,.int aAq,.int axy,.int t9,.int v_,.recs RT1 ave,.int g_3,.int g_4]) (λv_ K_=>by kernel_rfl) N t10
theorem m9:az (Ig N arW ar0 arY ar2) 1 (aP N arW ar0 arY ar2) (lp Pg 133 1) (bL,cO N arW ar0 arY ar2):=by
 intro a κ h;simp only at h;unfold cO at h;split at h
 ·obtain⟨e_,h⟩:=RT.cast_inv h (by decide); subst e_; exact(nk _ _ _ _ _ _ _ _ _ _ _ _ _ _).trans h
 ·cases h
theorem nj (κ:K) (t5 t6:Int) (b0:List RY1) (g g_2:Int):rE N (λs k=>dA (Ig N arW ar0 arY ar2) 1 (aP N arW ar0 arY ar2) (lp Pg 133 0).2 (lp Pg 133 0).1 s (kL Pg 1 ((aP N arW ar0 arY ar2) (lp Pg 133 0).1) κ k)) (bK.build [.int t5,.int t6,.recs RT1 b0,.int g,.int g_2])=ah N (cw N arW ar0 arY ar2 t5 b0 g g_2 (κ.ext 0 (iq.build [.recs RT1 b0]))) t6:=
 aA (λv_=>bK.build [.int t5,.int v_,.recs RT1 b0,.int g,.int g_2]) (λv_ K_=>by kernel_rfl) N t6
theorem m8:az (Ig N arW ar0 arY ar2) 1 (aP N arW ar0 arY ar2) (lp Pg 133 0) (bK,cN N arW ar0 arY ar2):=by
 intro a κ h;simp only at h;unfold cN at h;split at h
 ·obtain⟨e_,h⟩:=RT.cast_inv h (by decide); subst e_; exact(nj _ _ _ _ _ _ _ _ _ _ _).trans h
 ·cases h
theorem oM:aC (Ig N arW ar0 arY ar2) 1 (aP N arW ar0 arY ar2) (lp Pg 133 1):=
 au [(bL,cO N arW ar0 arY ar2)] (by kernel_rfl) ⟨m9 _ _ _ _ _,trivial⟩
theorem oL:aC (Ig N arW ar0 arY ar2) 1 (aP N arW ar0 arY ar2) (lp Pg 133 0):=
 au [(bK,cN N arW ar0 arY ar2)] (by kernel_rfl) ⟨m8 _ _ _ _ _,trivial⟩
theorem oF (atx:ab Pg 159 (bR arW)) (aul:ab Pg 160 (dp ar0)) (aum:ab Pg 161 (dr arY)) (atI:ab Pg 131 (dz ar2)):ab Pg 133 (gN (eg N arW ar0 arY ar2)):=by
 refine bH (cx:=(Ig N arW ar0 arY ar2)) (aD (aa atx (aa aul (aa aum (aa atI (ae _))))) (by kernel_rfl)) jK (gy (eg N arW ar0 arY ar2)) (aP N arW ar0 arY ar2) 2 1 (by kernel_rfl) (iL (oL _ _ _ _ _) (oM _ _ _ _ _)) ?_;intro a k h;unfold gy at h;split at h
 ·obtain⟨e_,h⟩:=RT.cast_inv h (by decide); subst e_; exact⟨[_],rfl,rfl,.trans (by kernel_rfl) h⟩
 ·cases h
end
theorem ac0 (N:Nat) (atQ:wC) (au3:CK) (aBy:ab Pg 155 (MX atQ)) (aCs:ab Pg 156 (YH au3)):ab Pg 198 (Yr (ZJ N atQ au3)):=by
 refine gfZ N false (aa aBy (aa aCs (ae _))) 0 ?_;intro a k h;unfold afU at h;split at h;exact⟨[],rfl,rfl,.trans (by kernel_rfl) h⟩;cases h
theorem AF (N:Nat) (ayG:Hm) (aD5:ab Pg 198 (Yr ayG)):ab Pg 163 (ms (pM N ayG)):=by
 refine gfZ N true (aa aD5 (ae _)) 0 ?_;intro a k h;unfold uU at h;split at h;exact⟨[],rfl,rfl,.trans (by kernel_rfl) h⟩;cases h
theorem aiD (N:Nat) (at8:vC) (aup:wE) (aun:ti) (avZ:yx) (aAG:ab Pg 208 (P2 at8)) (az_:ab Pg 229 (M0 aup)) (azc:ab Pg 192 (Kh aun)) (aAE:ab Pg 191 (Wf avZ)):ab Pg 216 (ag0 (amH N at8 aup aun avZ)):=by
 refine gfZ N false (aa aAG (aa az_ (aa azc (aa aAE (ae _))))) 1 ?_;intro a k h;unfold al1 at h;split at h;exact⟨[_],rfl,rfl,.trans (by kernel_rfl) h⟩;cases h
theorem aco (N:Nat) (avd:vB) (axV:HK) (azW:ab Pg 217 (P0 avd)) (aCz:ab Pg 216 (ag0 axV)):ab Pg 199 (X_ (Zj N avd axV)):=by
 refine gfZ N false (aa azW (aa aCz (ae _))) 1 ?_;intro a k h;unfold afs at h;split at h;exact⟨[_],rfl,rfl,.trans (by kernel_rfl) h⟩;cases h
theorem sr (N:Nat) (ayr:G5) (aDE:ab Pg 199 (X_ ayr)):ab Pg 164 (gD (jF N ayr)):=by
 refine gfZ N true (aa aDE (ae _)) 0 ?_;intro a k h;unfold mU at h;split at h;exact⟨[],rfl,rfl,.trans (by kernel_rfl) h⟩;cases h
theorem acn (N:Nat) (avd:vB) (axV:HK) (azW:ab Pg 217 (P0 avd)) (aCz:ab Pg 216 (ag0 axV)):ab Pg 215 (X9 (Zi N avd axV)):=by
 refine gfZ N false (aa azW (aa aCz (ae _))) 1 ?_;intro a k h;unfold afr at h;split at h;exact⟨[_],rfl,rfl,.trans (by kernel_rfl) h⟩;cases h
theorem ri (N:Nat) (ayq:G4) (aDD:ab Pg 215 (X9 ayq)):ab Pg 197 (gf (ja N ayq)):=by
 refine gfZ N true (aa aDD (ae _)) 0 ?_;intro a k h;unfold ml at h;split at h;exact⟨[],rfl,rfl,.trans (by kernel_rfl) h⟩;cases h
theorem acd (N:Nat) (avd:vB) (at8:vC) (aup:wE) (aun:ti) (avo:vA) (axW:HO) (asJ:mQ) (avZ:yx) (azW:ab Pg 217 (P0 avd)) (aAG:ab Pg 208 (P2 at8)) (az_:ab Pg 229 (M0 aup)) (azc:ab Pg 192 (Kh aun)) (azV:ab Pg 185 (PZ avo)) (aCC:ab Pg 230 (ag4 axW)) (ax3:ab Pg 187 (GD asJ)) (aAE:ab Pg 191 (Wf avZ)):ab Pg 212 (X2 (TW N avd at8 aup aun avo axW asJ avZ)):=by
 refine gfZ N false (aa azW (aa aAG (aa az_ (aa azc (aa azV (aa aCC (aa ax3 (aa aAE (ae _))))))))) 1 ?_;intro a k h;unfold afj at h;split at h;exact⟨[_],rfl,rfl,.trans (by kernel_rfl) h⟩;cases h
theorem su (N:Nat) (ayj:GW) (aDw:ab Pg 212 (X2 ayj)):ab Pg 196 (gE (jG N ayj)):=by
 refine gfZ N true (aa aDw (ae _)) 0 ?_;intro a k h;unfold mV at h;split at h;exact⟨[],rfl,rfl,.trans (by kernel_rfl) h⟩;cases h
theorem tH (N:Nat):ab Pg 195 (gX (j_ N)):=by
 refine gfV N (ae _) 1 ?_;intro a k h;unfold nD at h;split at h
 ·obtain⟨e_,h⟩:=RT.cast_inv h (by decide); subst e_; exact⟨[_],rfl,rfl,.trans (by kernel_rfl) h⟩
 ·cases h
def cU:StSh:=⟨(.any::.int .i64::.int .i64::.any::.ptr 1 0::.any::.any::.ptr 2 0::.any::.any::.int .i64::.int .i64::sqs 18 []),[some (179,1,.recs RT1),some (161,1,.cells [.int .i64,.int .i64,.slw 0]),some (179,1,.cells [.rp [.bool,.roi .u64,.bool,.roi .u64] 0])]⟩
def km:StSh:=⟨(sqs 30 []),[some (179,1,.recs RT1)]⟩
section
variable (N:Nat) (arW:aO) (ar_:cJ) (asa:cX) (asb:dw)
noncomputable abbrev Um:Cx:=⟨Pg,ao [(159,(bR arW)),(197,(gf ar_)),(196,(gE asa)),(195,(gX asb))],aB,N⟩
def eo:List Atom->K->Bool:=λa_ κ=>match a_ with
 | [.int i_1,.int axu,.int t10,.int t11,.recs t4_ b0,.int g,.int g_2,.bool x,.ints x_4,.bool x_5,.ints x_6]=>RT.cast RT1 t4_ b0 (λb0=>ah N (dS N arW ar_ asa asb i_1 axu t10 g g_2 x x_4 x_5 x_6 (λr0=>κ.ext 0 (km.build [.recs RT1 r0]))) (t11,b0)) false
 | _=>false
def eD:Nat->Option Ann:=λb_=>cond (b_==0) (some ⟨⟨[1,2,4,7,10,11],[],[],[]⟩,[(0,⟨[],[],[],[]⟩)],some ⟨[],[],[],[]⟩,some (ay [(cU,eo N arW ar_ asa asb)])⟩) (none)
theorem qA (κ:K) (i_1 axu t10 t11:Int) (b0:List RY1) (g g_2:Int) (x:Bool) (x_4:LI) (x_5:Bool) (x_6:LI):rE N (λs k=>dA (Um N arW ar_ asa asb) 1 (eD N arW ar_ asa asb) (lp Pg 162 0).2 (lp Pg 162 0).1 s (kL Pg 1 ((eD N arW ar_ asa asb) (lp Pg 162 0).1) κ k)) (cU.build [.int i_1,.int axu,.int t10,.int t11,.recs RT1 b0,.int g,.int g_2,.bool x,.ints x_4,.bool x_5,.ints x_6])=ah N (dS N arW ar_ asa asb i_1 axu t10 g g_2 x x_4 x_5 x_6 (λr0=>κ.ext 0 (km.build [.recs RT1 r0]))) (t11,b0):=
 aA (λ(v_:Int × List RY1)=>cU.build [.int i_1,.int axu,.int t10,.int v_.1,.recs RT1 v_.2,.int g,.int g_2,.bool x,.ints x_4,.bool x_5,.ints x_6]) (λv_ K_=>by obtain⟨t11,b0⟩:=v_; kernel_rfl) N (t11,b0)
theorem p7:az (Um N arW ar_ asa asb) 1 (eD N arW ar_ asa asb) (lp Pg 162 0) (cU,eo N arW ar_ asa asb):=by
 intro a κ h;simp only at h;unfold eo at h;split at h
 ·obtain⟨e_,h⟩:=RT.cast_inv h (by decide); subst e_; exact(qA _ _ _ _ _ _ _ _ _ _ _ _ _ _ _ _ _).trans h
 ·cases h
theorem tN:aC (Um N arW ar_ asa asb) 1 (eD N arW ar_ asa asb) (lp Pg 162 0):=
 au [(cU,eo N arW ar_ asa asb)] (by kernel_rfl) ⟨p7 _ _ _ _ _,trivial⟩
theorem tF (atx:ab Pg 159 (bR arW)) (av_:ab Pg 197 (gf ar_)) (awi:ab Pg 196 (gE asa)) (awx:ab Pg 195 (gX asb)):ab Pg 162 (gW (gY N arW ar_ asa asb)):=by
 refine bH (cx:=(Um N arW ar_ asa asb)) (aD (aa atx (aa av_ (aa awi (aa awx (ae _))))) (by kernel_rfl)) mR (jJ (gY N arW ar_ asa asb)) (eD N arW ar_ asa asb) 1 1 (by kernel_rfl) (aJ (tN _ _ _ _ _)) ?_;intro a k h;unfold jJ at h;split at h
 ·obtain⟨e_,h⟩:=RT.cast_inv h (by decide); subst e_; exact⟨[_],rfl,rfl,.trans (by kernel_rfl) h⟩
 ·cases h
end
def bQ:StSh:=⟨(.any::.ptr 1 0::.any::.int .i64::.int .i64::.ptr 2 0::.int .i64::.any::.any::.int .i64::.int .i64::sqs 43 []),[some (179,1,.recs RT1),some (161,1,.cells [.int .i64,.int .i64,.slw 0]),some (179,1,.cells [.rp [.bool,.roi .u64,.bool,.roi .u64] 0])]⟩
def iH:StSh:=⟨(.any::.any::.int .i64::sqs 51 []),[some (179,1,.recs RT1)]⟩
def iJ:StSh:=⟨(.any::.ptr 1 0::.any::.int .i64::.any::.ptr 2 0::.any::.any::.any::.int .i64::.int .i64::sqs 43 []),[some (179,1,.recs RT1),some (161,1,.cells [.int .i64,.int .i64,.slw 0]),some (179,1,.cells [.rp [.bool,.roi .u64,.bool,.roi .u64] 0])]⟩
section
variable (N:Nat) (arW:aO) (arY:bg) (asc:gZ) (ar7:cW) (ar0:bf) (ar8:du)
noncomputable abbrev Ih:Cx:=⟨Pg,ao [(159,(bR arW)),(161,(dr arY)),(163,(ms asc)),(164,(gD ar7)),(160,(dp ar0)),(162,(gW ar8))],aB,N⟩
def dd:List Atom->K->Bool:=λa_ κ=>match a_ with
 | [.int s_1,.int k_,.int i,.int aAs,.int avg,.recs t5_ ave,.int g_3,.int g_4,.bool p,.ints p_1,.bool p_2,.ints p_3]=>RT.cast RT1 t5_ ave (λave=>ah N (aF N arW arY asc ar7 ar0 ar8 s_1 k_ aAs avg g_3 g_4 p p_1 p_2 p_3 (λr0 r1=>κ.ret (iH.build [.int r0,.recs RT1 r1])) (λr3=>κ.ext 2 (iJ.build [.int s_1,.int aAs,.int avg,.recs RT1 r3,.int g_3,.int g_4,.bool p,.ints p_1,.bool p_2,.ints p_3]))) (i,ave)) false
 | _=>false
def bP:StSh:=⟨(.any::.ptr 1 0::.any::.int .i64::sqs 5 (.int .i64::.int .i64::sqs 43 [])),[some (179,1,.recs RT1),some (161,1,.cells [.int .i64,.int .i64,.slw 0])]⟩
def iG:StSh:=⟨(.any::.any::.int .i64::sqs 51 []),[some (179,1,.recs RT1)]⟩
def iI:StSh:=⟨(.any::.any::.any::.int .i64::sqs 50 []),[some (179,1,.recs RT1)]⟩
def dc:List Atom->K->Bool:=λa_ κ=>match a_ with
 | [.int s,.int t9,.int t10,.recs t3_ b0,.int g,.int g_2]=>RT.cast RT1 t3_ b0 (λb0=>ah N (aV N arW arY asc ar7 ar0 ar8 t9 g g_2 (λr0 r1=>κ.ret (iG.build [.int r0,.recs RT1 r1])) (λr0 r1=>κ.ext 0 (iI.build [.int r0,.recs RT1 r1]))) (s,t10,b0)) false
 | _=>false
def aR:Nat->Option Ann:=λb_=>cond (b_==2) (some ⟨⟨[1,3,4,5,6,9,10],[],[],[]⟩,[(2,⟨[1,3,5,9,10],[],[],[]⟩)],some ⟨[2],[],[],[]⟩,some (ay [(bQ,dd N arW arY asc ar7 ar0 ar8)])⟩) (cond (b_==0) (some ⟨⟨[1,3,9,10],[],[],[]⟩,[(0,⟨[3],[],[],[]⟩)],some ⟨[2],[],[],[]⟩,some (ay [(bP,dc N arW arY asc ar7 ar0 ar8)])⟩) (none))
theorem nP (κ:K) (s_1 k_ i aAs avg:Int) (ave:List RY1) (g_3 g_4:Int) (p:Bool) (p_1:LI) (p_2:Bool) (p_3:LI):rE N (λs k=>dA (Ih N arW arY asc ar7 ar0 ar8) 1 (aR N arW arY asc ar7 ar0 ar8) (lp Pg 134 1).2 (lp Pg 134 1).1 s (kL Pg 1 ((aR N arW arY asc ar7 ar0 ar8) (lp Pg 134 1).1) κ k)) (bQ.build [.int s_1,.int k_,.int i,.int aAs,.int avg,.recs RT1 ave,.int g_3,.int g_4,.bool p,.ints p_1,.bool p_2,.ints p_3])=ah N (aF N arW arY asc ar7 ar0 ar8 s_1 k_ aAs avg g_3 g_4 p p_1 p_2 p_3 (λr0 r1=>κ.ret (iH.build [.int r0,.recs RT1 r1])) (λr3=>κ.ext 2 (iJ.build [.int s_1,.int aAs,.int avg,.recs RT1 r3,.int g_3,.int g_4,.bool p,.ints p_1,.bool p_2,.ints p_3]))) (i,ave):=
 aA (λ(v_:Int × List RY1)=>bQ.build [.int s_1,.int k_,.int v_.1,.int aAs,.int avg,.recs RT1 v_.2,.int g_3,.int g_4,.bool p,.ints p_1,.bool p_2,.ints p_3]) (λv_ K_=>by obtain⟨i,ave⟩:=v_; kernel_rfl) N (i,ave)
theorem nv:az (Ih N arW arY asc ar7 ar0 ar8) 1 (aR N arW arY asc ar7 ar0 ar8) (lp Pg 134 1) (bQ,dd N arW arY asc ar7 ar0 ar8):=by
 intro a κ h;simp only at h;unfold dd at h;split at h
 ·obtain⟨e_,h⟩:=RT.cast_inv h (by decide); subst e_; exact(nP _ _ _ _ _ _ _ _ _ _ _ _ _ _ _ _ _ _ _ _).trans h
 ·cases h
theorem nO (κ:K) (s t9 t10:Int) (b0:List RY1) (g g_2:Int):rE N (λs k=>dA (Ih N arW arY asc ar7 ar0 ar8) 1 (aR N arW arY asc ar7 ar0 ar8) (lp Pg 134 0).2 (lp Pg 134 0).1 s (kL Pg 1 ((aR N arW arY asc ar7 ar0 ar8) (lp Pg 134 0).1) κ k)) (bP.build [.int s,.int t9,.int t10,.recs RT1 b0,.int g,.int g_2])=ah N (aV N arW arY asc ar7 ar0 ar8 t9 g g_2 (λr0 r1=>κ.ret (iG.build [.int r0,.recs RT1 r1])) (λr0 r1=>κ.ext 0 (iI.build [.int r0,.recs RT1 r1]))) (s,t10,b0):=
 aA (λ(v_:Int × Int × List RY1)=>bP.build [.int v_.1,.int t9,.int v_.2.1,.recs RT1 v_.2.2,.int g,.int g_2]) (λv_ K_=>by obtain⟨s,t10,b0⟩:=v_; kernel_rfl) N (s,t10,b0)
theorem nu:az (Ih N arW arY asc ar7 ar0 ar8) 1 (aR N arW arY asc ar7 ar0 ar8) (lp Pg 134 0) (bP,dc N arW arY asc ar7 ar0 ar8):=by
 intro a κ h;simp only at h;unfold dc at h;split at h
 ·obtain⟨e_,h⟩:=RT.cast_inv h (by decide); subst e_; exact(nO _ _ _ _ _ _ _ _ _ _ _ _ _ _).trans h
 ·cases h
theorem pB:aC (Ih N arW arY asc ar7 ar0 ar8) 1 (aR N arW arY asc ar7 ar0 ar8) (lp Pg 134 1):=
 au [(bQ,dd N arW arY asc ar7 ar0 ar8)] (by kernel_rfl) ⟨nv _ _ _ _ _ _ _,trivial⟩
theorem pA:aC (Ih N arW arY asc ar7 ar0 ar8) 1 (aR N arW arY asc ar7 ar0 ar8) (lp Pg 134 0):=
 au [(bP,dc N arW arY asc ar7 ar0 ar8)] (by kernel_rfl) ⟨nu _ _ _ _ _ _ _,trivial⟩
theorem pq (atx:ab Pg 159 (bR arW)) (aum:ab Pg 161 (dr arY)) (ax5:ab Pg 163 (ms asc)) (awh:ab Pg 164 (gD ar7)) (aul:ab Pg 160 (dp ar0)) (aww:ab Pg 162 (gW ar8)):ab Pg 134 (ie (eK N arW arY asc ar7 ar0 ar8)):=by
 refine bH (cx:=(Ih N arW arY asc ar7 ar0 ar8)) (aD (aa atx (aa aum (aa ax5 (aa awh (aa aul (aa aww (ae _))))))) (by kernel_rfl)) kj (gU (eK N arW arY asc ar7 ar0 ar8)) (aR N arW arY asc ar7 ar0 ar8) 2 1 (by kernel_rfl) (iL (pA _ _ _ _ _ _ _) (pB _ _ _ _ _ _ _)) ?_;intro a k h;unfold gU at h;split at h
 ·obtain⟨e_,h⟩:=RT.cast_inv h (by decide); subst e_; exact⟨[_],rfl,rfl,.trans (by kernel_rfl) h⟩
 ·cases h
end
theorem so (N:Nat) (ar2:aY) (asA:cI) (asE:cR) (atI:ab Pg 131 (dz ar2)) (avK:ab Pg 133 (gN asA)) (avS:ab Pg 134 (ie asE)):ab Pg 118 (gC (jD N ar2 asA asE)):=by
 refine gfV N (aa atI (aa avK (aa avS (ae _)))) 1 ?_;intro a k h;unfold mS at h;split at h
 ·obtain⟨e_,h⟩:=RT.cast_inv h (by decide); subst e_; exact⟨[_],rfl,rfl,.trans (by kernel_rfl) h⟩
 ·cases h
def AB (N:Nat) (asI:eZ) (asr:cV):Nat->Option Ann:=λb_=>none
theorem xQ (N:Nat) (asI:eZ) (asr:cV) (axh:ab Pg 117 (jP asI)) (awg:ab Pg 118 (gC asr)):ab Pg 100 (nM (ky N asI asr)):=by
 refine adl (md:=none) (cx:=⟨Pg,ao [(117,(jP asI)),(118,(gC asr))],aB,N⟩) (aD (aa axh (aa awg (ae _))) (by kernel_rfl)) hD_ qZ (m_ (ky N asI asr)) (AB N asI asr) 0 0 (by kernel_rfl) (λi_ hi_=>by omega) ?_;intro a k h;unfold m_ at h;split at h;exact⟨[],rfl,rfl,.trans (by kernel_rfl) h⟩;cases h
theorem yU (N:Nat) (atp:im) (axs:ab Pg 100 (nM atp)):ab Pg 73 (lz (ou N atp)):=by
 refine gfV N (aa axs (ae _)) 0 ?_;intro a k h;unfold uc at h;split at h;exact⟨[],rfl,rfl,.trans (by kernel_rfl) h⟩;cases h
theorem Db (N:Nat) (att:vz) (as2:rT) (az6:Nq) (asM:eX) (aAA:ab Pg 71 (M6 att)) (aAB:ab Pg 72 (PY as2)) (aEV:ab Pg 58 (amd az6)) (avv:ab Pg 73 (lz asM)):ab Pg 32 (gM (tg N att as2 az6 asM)):=by
 refine gfV N (aa aAA (aa aAB (aa aEV (aa avv (ae _))))) 0 ?_;intro a k h;unfold xJ at h;split at h;exact⟨[],rfl,rfl,.trans (by kernel_rfl) h⟩;cases h
theorem acT (N:Nat):ab Pg 113 (Yn (ZE N)):=by
 refine gfV N (ae _) 0 ?_;intro a k h;unfold afO at h;split at h;exact⟨[],rfl,rfl,.trans (by kernel_rfl) h⟩;cases h
def jA:StSh:=⟨(sqs 5 (.roi .i64::.int .i64::.int .i64::sqs 7 [])),[]⟩
def yk:StSh:=⟨(.any::.any::.int .i64::sqs 12 []),[]⟩
def yl:StSh:=⟨(sqs 15 []),[]⟩
def jq (N:Nat):List Atom->K->Bool:=λa_ κ=>match a_ with
 | [.ints t5,.int t6,.int t7]=>ah N (uV N t5 t6 (λr0=>κ.ret (yk.build [.int r0])) (κ.ext 0 (yl.build []))) t7
 | _=>false
def Qn (N:Nat):Nat->Option Ann:=λb_=>cond (b_==0) (some ⟨⟨[5,6,7],[],[],[]⟩,[(0,⟨[],[],[],[]⟩)],some ⟨[2],[],[],[]⟩,some (ay [(jA,jq N)])⟩) (none)
theorem xZ (N:Nat):az ⟨Pg,ao [],aB,N⟩ 0 (Qn N) (lp Pg 112 0) (jA,jq N):=by
 intro a κ h;simp only at h;unfold jq at h;split at h
 ·rename_i t5 t6 t7;exact .trans (aA (λv_=>jA.build [.ints t5,.int t6,.int v_]) (λv_ K_=>by kernel_rfl) N t7) h
 ·cases h
theorem Do (N:Nat):aC ⟨Pg,ao [],aB,N⟩ 0 (Qn N) (lp Pg 112 0):=
 au [(jA,jq N)] (by kernel_rfl) ⟨xZ _,trivial⟩
theorem acH (N:Nat):ab Pg 112 (Yg (Zv N)):=by
 refine bH (cx:=⟨Pg,ao [],aB,N⟩) (aD (ae _) (by kernel_rfl)) VK (SB (Zv N)) (Qn N) 1 0 (by kernel_rfl) (aJ (Do _)) ?_;intro a k h;unfold SB at h;split at h;exact⟨[],rfl,rfl,.trans (by kernel_rfl) h⟩;cases h
theorem ab_ (N:Nat) (att:vz) (ayE:Hj) (ayy:Hb) (aAA:ab Pg 71 (M6 att)) (aD0:ab Pg 113 (Yn ayE)) (aDR:ab Pg 112 (Yg ayy)):ab Pg 96 (Tj (Za N att ayE ayy)):=by
 refine gfV N (aa aAA (aa aD0 (aa aDR (ae _)))) 0 ?_;intro a k h;unfold afh at h;split at h;exact⟨[],rfl,rfl,.trans (by kernel_rfl) h⟩;cases h
theorem ab9 (N:Nat):ab Pg 97 (Ti (Y_ N)):=by
 refine gfV N (ae _) 0 ?_;intro a k h;unfold afg at h;split at h;exact⟨[],rfl,rfl,.trans (by kernel_rfl) h⟩;cases h
def jz:StSh:=⟨(.any::.ptr 0 0::.any::.any::.any::.flt::sqs 7 (.int .i64::.int .i64::sqs 13 [])),[some (28,1,.cells [.int .i64,.int .i64,.rof])]⟩
def yj:StSh:=⟨(sqs 5 (.flt::sqs 22 [])),[]⟩
section
variable (N:Nat) (au8:D_) (as8:wB) (au7:D9)
noncomputable abbrev aaN:Cx:=⟨Pg,ao [(96,(Tj au8)),(89,(Kg as8)),(97,(Ti au7))],aB,N⟩
def jp:List Atom->K->Bool:=λa_ κ=>match a_ with
 | [.fl s,.int t13,.int t14,.int m,.int m_3,.fls m_4]=>ah N (MM N au8 as8 au7 t13 m m_3 m_4 (λr0=>κ.ext 0 (yj.build [.fl r0]))) (s,t14)
 | _=>false
def Qm:Nat->Option Ann:=λb_=>cond (b_==0) (some ⟨⟨[1,5,13,14],[],[],[]⟩,[(0,⟨[5],[],[],[]⟩)],some ⟨[2,3],[],[],[]⟩,some (ay [(jz,jp N au8 as8 au7)])⟩) (none)
theorem xY:az (aaN N au8 as8 au7) 0 (Qm N au8 as8 au7) (lp Pg 70 0) (jz,jp N au8 as8 au7):=by
 intro a κ h;simp only at h;unfold jp at h;split at h
 ·rename_i s t13 t14 m m_3 m_4;exact .trans (aA (λ(v_:Fl × Int)=>jz.build [.fl v_.1,.int t13,.int v_.2,.int m,.int m_3,.fls m_4]) (λv_ K_=>by obtain⟨s,t14⟩:=v_; kernel_rfl) N (s,t14)) h
 ·cases h
theorem Dn:aC (aaN N au8 as8 au7) 0 (Qm N au8 as8 au7) (lp Pg 70 0):=
 au [(jz,jp N au8 as8 au7)] (by kernel_rfl) ⟨xY _ _ _ _,trivial⟩
theorem acF (aDu:ab Pg 96 (Tj au8)) (aBv:ab Pg 89 (Kg as8)) (aDt:ab Pg 97 (Ti au7)):ab Pg 70 (Yf (T0 N au8 as8 au7)):=by
 refine bH (cx:=(aaN N au8 as8 au7)) (aD (aa aDu (aa aBv (aa aDt (ae _)))) (by kernel_rfl)) VJ (SA (T0 N au8 as8 au7)) (Qm N au8 as8 au7) 1 0 (by kernel_rfl) (aJ (Dn _ _ _ _)) ?_;intro a k h;unfold SA at h;split at h;exact⟨[],rfl,rfl,.trans (by kernel_rfl) h⟩;cases h
end
theorem Dc (N:Nat) (asd:bX) (ayx:Ha) (aud:ab Pg 32 (gM asd)) (aDP:ab Pg 70 (Yf ayx)):ab Pg 30 (oq (th N asd ayx)):=by
 refine gfV N (aa aud (aa aDP (ae _))) 0 ?_;intro a k h;unfold xK at h;split at h;exact⟨[],rfl,rfl,.trans (by kernel_rfl) h⟩;cases h
theorem ac6 (N:Nat):ab Pg 101 (Yw (ZM N)):=by
 refine gfV N (ae _) 0 ?_;intro a k h;unfold afX at h;split at h;exact⟨[],rfl,rfl,.trans (by kernel_rfl) h⟩;cases h
theorem acZ (N:Nat) (avn:wH) (aAc:ab Pg 40 (TI avn)):ab Pg 102 (TD (ZI N avn)):=by
 refine gfV N (aa aAc (ae _)) 0 ?_;intro a k h;unfold afT at h;split at h;exact⟨[],rfl,rfl,.trans (by kernel_rfl) h⟩;cases h
theorem acy (N:Nat) (awe:BK) (aBG:ab Pg 102 (TD awe)):ab Pg 94 (MZ (Zq N awe)):=by
 refine gfV N (aa aBG (ae _)) 0 ?_;intro a k h;unfold afz at h;split at h;exact⟨[],rfl,rfl,.trans (by kernel_rfl) h⟩;cases h
theorem acP (N:Nat):ab Pg 95 (Yk (ZA N)):=by
 refine gfV N (ae _) 0 ?_;intro a k h;unfold afK at h;split at h;exact⟨[],rfl,rfl,.trans (by kernel_rfl) h⟩;cases h
theorem ac5 (N:Nat) (atR:wD) (ayC:Hg) (aBC:ab Pg 94 (MZ atR)) (aDW:ab Pg 95 (Yk ayC)):ab Pg 69 (Yv (ZL N atR ayC)):=by
 refine gfV N (aa aBC (aa aDW (ae _))) 0 ?_;intro a k h;unfold afW at h;split at h;exact⟨[],rfl,rfl,.trans (by kernel_rfl) h⟩;cases h
theorem ahV (N:Nat) (ayK:Hq) (aEb:ab Pg 69 (Yv ayK)):ab Pg 29 (Yo (amk N ayK)):=by
 refine gfV N (aa aEb (ae _)) 0 ?_;intro a k h;unfold alC at h;split at h;exact⟨[],rfl,rfl,.trans (by kernel_rfl) h⟩;cases h
def dO:StSh:=⟨(sqs 5 (.rof::.int .i64::.int .i64::sqs 7 [])),[]⟩
def ph:StSh:=⟨(.any::.any::.bool::sqs 12 []),[]⟩
def pm:StSh:=⟨(sqs 15 []),[]⟩
section
variable (N:Nat) (avA:E_)
noncomputable abbrev aaO:Cx:=⟨Pg,ao [(29,(Yo avA))],aB,N⟩
def dK:List Atom->K->Bool:=λa_ κ=>match a_ with
 | [.fls t5,.int t6,.int t7]=>ah N (MH N avA t5 t6 (λr0=>κ.ret (ph.build [.bool r0])) (κ.ext 0 (pm.build []))) t7
 | _=>false
def Qe:Nat->Option Ann:=λb_=>cond (b_==0) (some ⟨⟨[5,6,7],[],[],[]⟩,[(0,⟨[],[],[],[]⟩)],some ⟨[2],[],[],[]⟩,some (ay [(dO,dK N avA)])⟩) (none)
theorem oH:az (aaO N avA) 0 (Qe N avA) (lp Pg 78 0) (dO,dK N avA):=by
 intro a κ h;simp only at h;unfold dK at h;split at h
 ·rename_i t5 t6 t7;exact .trans (aA (λv_=>dO.build [.fls t5,.int t6,.int v_]) (λv_ K_=>by kernel_rfl) N t7) h
 ·cases h
theorem rB:aC (aaO N avA) 0 (Qe N avA) (lp Pg 78 0):=
 au [(dO,dK N avA)] (by kernel_rfl) ⟨oH _ _,trivial⟩
theorem abE (aCr:ab Pg 29 (Yo avA)):ab Pg 78 (SY (TO N avA)):=by
 refine bH (cx:=(aaO N avA)) (aD (aa aCr (ae _)) (by kernel_rfl)) Vx (R9 (TO N avA)) (Qe N avA) 1 0 (by kernel_rfl) (aJ (rB _ _)) ?_;intro a k h;unfold R9 at h;split at h;exact⟨[],rfl,rfl,.trans (by kernel_rfl) h⟩;cases h
end
theorem acv (N:Nat) (ayL:Hr) (awn:Bn) (aEc:ab Pg 101 (Yw ayL)) (aBt:ab Pg 78 (SY awn)):ab Pg 84 (MY (Zo N ayL awn)):=by
 refine gfV N (aa aEc (aa aBt (ae _))) 0 ?_;intro a k h;unfold afw at h;split at h;exact⟨[],rfl,rfl,.trans (by kernel_rfl) h⟩;cases h
theorem ac1 (N:Nat) (atN:yr) (aBA:ab Pg 84 (MY atN)):ab Pg 83 (Ys (ZK N atN)):=by
 refine gfV N (aa aBA (ae _)) 0 ?_;intro a k h;unfold afV at h;split at h;exact⟨[],rfl,rfl,.trans (by kernel_rfl) h⟩;cases h
theorem ais (N:Nat):ab Pg 55 (Wh (amB N)):=by
 refine gfV N (ae _) 0 ?_;intro a k h;unfold alU at h;split at h;exact⟨[],rfl,rfl,.trans (by kernel_rfl) h⟩;cases h
theorem acI (N:Nat) (awe:BK) (aBG:ab Pg 102 (TD awe)):ab Pg 85 (Tv (Zw N awe)):=by
 refine gfV N (aa aBG (ae _)) 0 ?_;intro a k h;unfold afF at h;split at h;exact⟨[],rfl,rfl,.trans (by kernel_rfl) h⟩;cases h
def dQ:StSh:=⟨(.any::.ptr 0 0::.any::.any::.int .i64::.int .i64::sqs 31 []),[some (28,1,.cells [.int .i64,.int .i64,.rof])]⟩
def pk:StSh:=⟨(.any::.any::.int .i64::sqs 34 []),[]⟩
def po:StSh:=⟨(.any::.ptr 0 0::.any::.any::.int .i64::sqs 32 []),[some (28,1,.cells [.int .i64,.int .i64,.rof])]⟩
section
variable (N:Nat) (atN:yr) (at1:CQ) (aub:Ec)
noncomputable abbrev N9:Cx:=⟨Pg,ao [(84,(MY atN)),(55,(Wh at1)),(85,(Tv aub))],aB,N⟩
def dM:List Atom->K->Bool:=λa_ κ=>match a_ with
 | [.int i_1,.int j,.int m_5,.int m_6,.fls m_7]=>ah N (MJ N atN at1 aub i_1 m_5 m_6 m_7 (λr0=>κ.ret (pk.build [.int r0])) (κ.ext 2 (po.build [.int i_1,.int m_5,.int m_6,.fls m_7]))) j
 | _=>false
def dP:StSh:=⟨(.any::.ptr 0 0::.any::.any::.int .i64::sqs 32 []),[some (28,1,.cells [.int .i64,.int .i64,.rof])]⟩
def pj:StSh:=⟨(.any::.any::.int .i64::sqs 34 []),[]⟩
def pn:StSh:=⟨(sqs 37 []),[]⟩
def dL:List Atom->K->Bool:=λa_ κ=>match a_ with
 | [.int i,.int m,.int m_3,.fls m_4]=>ah N (MI N atN at1 aub m m_3 m_4 (λr0=>κ.ret (pj.build [.int r0])) (κ.ext 0 (pn.build []))) i
 | _=>false
def NB:Nat->Option Ann:=λb_=>cond (b_==2) (some ⟨⟨[1,4,5],[],[],[]⟩,[(2,⟨[1,4],[],[],[]⟩)],some ⟨[2],[],[],[]⟩,some (ay [(dQ,dM N atN at1 aub)])⟩) (cond (b_==0) (some ⟨⟨[1,4],[],[],[]⟩,[(0,⟨[],[],[],[]⟩)],some ⟨[2],[],[],[]⟩,some (ay [(dP,dL N atN at1 aub)])⟩) (none))
theorem oJ:az (N9 N atN at1 aub) 0 (NB N atN at1 aub) (lp Pg 49 1) (dQ,dM N atN at1 aub):=by
 intro a κ h;simp only at h;unfold dM at h;split at h
 ·rename_i i_1 j m_5 m_6 m_7;exact .trans (aA (λv_=>dQ.build [.int i_1,.int v_,.int m_5,.int m_6,.fls m_7]) (λv_ K_=>by kernel_rfl) N j) h
 ·cases h
theorem oI:az (N9 N atN at1 aub) 0 (NB N atN at1 aub) (lp Pg 49 0) (dP,dL N atN at1 aub):=by
 intro a κ h;simp only at h;unfold dL at h;split at h
 ·rename_i i m m_3 m_4;exact .trans (aA (λv_=>dP.build [.int v_,.int m,.int m_3,.fls m_4]) (λv_ K_=>by kernel_rfl) N i) h
 ·cases h
theorem rD:aC (N9 N atN at1 aub) 0 (NB N atN at1 aub) (lp Pg 49 1):=
 au [(dQ,dM N atN at1 aub)] (by kernel_rfl) ⟨oJ _ _ _ _,trivial⟩
theorem rC:aC (N9 N atN at1 aub) 0 (NB N atN at1 aub) (lp Pg 49 0):=
 au [(dP,dL N atN at1 aub)] (by kernel_rfl) ⟨oI _ _ _ _,trivial⟩
theorem aij (aBA:ab Pg 84 (MY atN)) (aCv:ab Pg 55 (Wh at1)) (aDS:ab Pg 85 (Tv aub)):ab Pg 49 (amc (ahk N atN at1 aub)):=by
 refine bH (cx:=(N9 N atN at1 aub)) (aD (aa aBA (aa aCv (aa aDS (ae _)))) (by kernel_rfl)) aeG (agk (ahk N atN at1 aub)) (NB N atN at1 aub) 2 0 (by kernel_rfl) (iL (rC _ _ _ _) (rD _ _ _ _)) ?_;intro a k h;unfold agk at h;split at h;exact⟨[],rfl,rfl,.trans (by kernel_rfl) h⟩;cases h
end
theorem ac9 (N:Nat) (ayH:Hn) (awn:Bn) (az5:Np) (aD6:ab Pg 83 (Ys ayH)) (aBt:ab Pg 78 (SY awn)) (aEO:ab Pg 49 (amc az5)):ab Pg 66 (Yz (ZO N ayH awn az5)):=by
 refine gfV N (aa aD6 (aa aBt (aa aEO (ae _)))) 0 ?_;intro a k h;unfold afZ at h;split at h;exact⟨[],rfl,rfl,.trans (by kernel_rfl) h⟩;cases h
def gp:StSh:=⟨(.int .u64::.int .i64::sqs 15 []),[]⟩
def uk:StSh:=⟨(.int .u64::.int .i64::sqs 15 []),[]⟩
def gi (N:Nat):List Atom->K->Bool:=λa_ κ=>match a_ with
 | [.int m_1,.int e_1]=>ah N (pd N (λr0 r1=>κ.ext 0 (uk.build [.int r0,.int r1]))) (m_1,e_1)
 | _=>false
def Qs (N:Nat):Nat->Option Ann:=λb_=>cond (b_==0) (some ⟨⟨[0,1],[],[],[]⟩,[(0,⟨[0,1],[],[],[]⟩)],some ⟨[4,5],[],[],[]⟩,some (ay [(gp,gi N)])⟩) (none)
theorem tJ (N:Nat):az ⟨Pg,ao [],aB,N⟩ 0 (Qs N) (lp Pg 201 0) (gp,gi N):=by
 intro a κ h;simp only at h;unfold gi at h;split at h
 ·rename_i m_1 e_1;exact .trans (aA (λ(v_:Int × Int)=>gp.build [.int v_.1,.int v_.2]) (λv_ K_=>by obtain⟨m_1,e_1⟩:=v_; kernel_rfl) N (m_1,e_1)) h
 ·cases h
theorem wZ (N:Nat):aC ⟨Pg,ao [],aB,N⟩ 0 (Qs N) (lp Pg 201 0):=
 au [(gp,gi N)] (by kernel_rfl) ⟨tJ _,trivial⟩
theorem ac4 (N:Nat):ab Pg 201 (TG (Nb N)):=by
 refine bH (cx:=⟨Pg,ao [],aB,N⟩) (aD (ae _) (by kernel_rfl)) VQ (SK (Nb N)) (Qs N) 1 0 (by kernel_rfl) (aJ (wZ _)) ?_;intro a k h;unfold SK at h;split at h;exact⟨[],rfl,rfl,.trans (by kernel_rfl) h⟩;cases h
section
variable (N:Nat) (atR:wD) (auj:BL)
noncomputable abbrev N_:Cx:=⟨Pg,ao [(94,(MZ atR)),(201,(TG auj))],aB,N⟩
def H4 (N:Nat) (atR:wD) (auj:BL):Nat->Option Ann:=λb_=>none
def Rr (d_:List V) (u_:List (Option Blk)) (x:Fl) (neg:Bool) (e f:Int):St:=⟨((dq d_ 0)::(dq d_ 1)::.ptr 0 0::(dq d_ 2)::.bool neg::vwi e::vwu f::dqs d_ 3 28 []),[some ⟨198,1,.cells [.bool false,vwu 0,vwi 0]⟩]⟩
theorem anQ (d_:List V) (u_:List (Option Blk)) (x:Fl) (neg:Bool) (e f:Int) (c_:KV):aQ (N_ N atR auj) 0 (H4 N atR auj) ((cds Pg 170).drop 6) 0 (Rr d_ u_ x neg e f) (tC Pg 170 0 c_)=Nl N atR auj x neg e f (λr0 r1 r2 r3=>c_ (.tup [.agg [.bool r0,vwu r1,vwi r2],vwi r3]) []):=by kernel_rfl
theorem IF (x:Fl) (c_:KV) (κn_:St->Bool):aQ (N_ N atR auj) 0 (H4 N atR auj) (sg Pg 170 0 6) 0 (st0 Pg 170 (DS.args [.fl x]) []) { (tC Pg 170 0 c_)with nrm:=κn_ } = (atR x (λcr nr ask=>cond (nr==2047) (c_ (.tup [.agg [.bool false,vwu 0,vwi 0],vwi 4]) []) (cond (decide (nr>0)) (aj .i64 (nr - 1)&&κn_ (Rr (.flt x::.any::vwi 0::.any::.any::.tup [.bool cr,vwi nr,vwu ask]::.flt x::.tup [.bool cr,vwi nr,vwu ask]::.bool cr::vwi nr::vwu ask::vwi nr::.bool false::.any::vwi nr::.bool true::vwu ask::vwu (IntKind.wrap .u64 (ask+4503599627370496))::vwi nr::vwi (nr - 1)::vqs 11 []) [] x cr (nr - 1) (IntKind.wrap .u64 (ask+4503599627370496)))) (κn_ (Rr (.flt x::.any::vwi 0::.any::.any::.tup [.bool cr,vwi nr,vwu ask]::.flt x::.tup [.bool cr,vwi nr,vwu ask]::.bool cr::vwi nr::vwu ask::vwi nr::.bool false::.any::vwi nr::.bool false::vqs 15 []) [] x cr nr ask))))):=by kernel_rfl
theorem IP (x:Fl) (c_:KV):aQ (N_ N atR auj) 0 (H4 N atR auj) ((cds Pg 170).drop 0) 0 (st0 Pg 170 (DS.args [.fl x]) []) (tC Pg 170 0 c_)=Kr N atR auj x (λr0 r1 r2 r3=>c_ (.tup [.agg [.bool r0,vwu r1,vwi r2],vwi r3]) []):=by rw[cY 0 6 6 rfl];refine(IF N atR auj x c_ _).trans ?_;simp only[anQ];kernel_rfl
theorem am5 (x:Fl) (c_:KV):qv (N_ N atR auj) (H4 N atR auj) 170 (DS.args [.fl x]) [] c_=Kr N atR auj x (λr0 r1 r2 r3=>c_ (.tup [.agg [.bool r0,vwu r1,vwi r2],vwi r3]) []):=
 (nT (by kernel_rfl)).trans (IP N atR auj x c_)
theorem ac2 (aBC:ab Pg 94 (MZ atR)) (aEa:ab Pg 201 (TG auj)):ab Pg 170 (Yt (Kr N atR auj)):=by
 refine bH (cx:=(N_ N atR auj)) (aD (aa aBC (aa aEa (ae _))) (by kernel_rfl)) DS (SH (Kr N atR auj)) (H4 N atR auj) 0 0 (by kernel_rfl) (λi_ hi_=>by omega) ?_;intro a k h;unfold SH at h;split at h;exact⟨[],rfl,rfl,(am5 _ _ _ _ _).trans h⟩;cases h
def fz:StSh:=⟨(.sl 0::sqs 20 []),[some (195,1,.ints .u32)]⟩
def rH:StSh:=⟨(.sl 0::sqs 20 []),[some (195,1,.ints .u32)]⟩
end
def fi (N:Nat):List Atom->K->Bool:=λa_ κ=>match a_ with
 | [.nat m_1,.nat m_2,.ints m_3]=>ah N (Cu N m_1 m_3 (λr1=>κ.ext 0 (rH.build [.nat m_1,.nat r1,.ints m_3]))) m_2
 | _=>false
def amU (N:Nat):Nat->Option Ann:=λb_=>cond (b_==0) (some ⟨⟨[0],[(0,some 0,0)],[],[]⟩,[(0,⟨[0],[],[],[]⟩)],some ⟨[2],[],[],[]⟩,some (ay [(fz,fi N)])⟩) (none)
theorem rk (N:Nat):az ⟨Pg,ao [],aB,N⟩ 1 (amU N) (lp Pg 150 0) (fz,fi N):=by
 intro a κ h;simp only at h;unfold fi at h;split at h
 ·rename_i m_1 m_2 m_3;exact .trans (aA (λv_=>fz.build [.nat m_1,.nat v_,.ints m_3]) (λv_ K_=>by kernel_rfl) N m_2) h
 ·cases h
theorem vf (N:Nat):aC ⟨Pg,ao [],aB,N⟩ 1 (amU N) (lp Pg 150 0):=
 au [(fz,fi N)] (by kernel_rfl) ⟨rk _,trivial⟩
theorem anq (N:Nat):ab Pg 150 (FQ7 (GQ7 N)):=by
 refine aT (md:=false) (cx:=⟨Pg,ao [],aB,N⟩) (aD (ae _) (by kernel_rfl)) aeL (aoL (GQ7 N)) (amU N) 1 1 (by kernel_rfl) (aJ (vf _)) ?_;intro a k h;unfold aoL at h;split at h;exact⟨[_],rfl,rfl,.trans (by kernel_rfl) h⟩;cases h
theorem acg (N:Nat) (SQ7:jN) (hQ7:ab Pg 150 (FQ7 SQ7)):ab Pg 202 (Kj (Zd N SQ7)):=by
 refine gfZ N false (aa hQ7 (ae _)) 0 ?_;intro a k h;unfold afm at h;split at h;exact⟨[],rfl,rfl,.trans (by kernel_rfl) h⟩;cases h
def gl:StSh:=⟨(.roi .u32::sqs 20 []),[]⟩
def uj:StSh:=⟨(.roi .u32::sqs 20 []),[]⟩
def gg (N:Nat):List Atom->K->Bool:=λa_ κ=>match a_ with
 | [.ints m_1]=>ah N (kU N (λr0=>κ.ext 0 (uj.build [.ints r0]))) m_1
 | _=>false
def Qo (N:Nat):Nat->Option Ann:=λb_=>cond (b_==0) (some ⟨⟨[0],[],[],[]⟩,[(0,⟨[0],[],[],[]⟩)],some ⟨[2],[],[],[]⟩,some (ay [(gl,gg N)])⟩) (none)
theorem tI (N:Nat):az ⟨Pg,ao [],aB,N⟩ 0 (Qo N) (lp Pg 150 0) (gl,gg N):=by
 intro a κ h;simp only at h;unfold gg at h;split at h
 ·rename_i m_1;exact .trans (aA (λv_=>gl.build [.ints v_]) (λv_ K_=>by kernel_rfl) N m_1) h
 ·cases h
theorem wY (N:Nat):aC ⟨Pg,ao [],aB,N⟩ 0 (Qo N) (lp Pg 150 0):=
 au [(gl,gg N)] (by kernel_rfl) ⟨tI _,trivial⟩
theorem acJ (N:Nat):ab Pg 150 (Kk (T2 N)):=by
 refine aT (md:=false) (cx:=⟨Pg,ao [],aB,N⟩) (aD (ae _) (by kernel_rfl)) VL (SC (T2 N)) (Qo N) 1 0 (by kernel_rfl) (aJ (wY _)) ?_;intro a k h;unfold SC at h;split at h;exact⟨[],rfl,rfl,.trans (by kernel_rfl) h⟩;cases h
theorem abK (N:Nat) (auX:tn) (aze:ab Pg 150 (Kk auX)):ab Pg 140 (GA (YX N auX)):=by
 refine gfZ N false (aa aze (ae _)) 1 ?_;intro a k h;unfold ae2 at h;split at h;exact⟨[_],rfl,rfl,.trans (by kernel_rfl) h⟩;cases h
theorem acf (N:Nat) (atC:tm) (atq:pP) (az9:ab Pg 202 (Kj atC)) (azb:ab Pg 140 (GA atq)):ab Pg 171 (X3 (Zc N atC atq)):=by
 refine gfZ N false (aa az9 (aa azb (ae _))) 1 ?_;intro a k h;unfold afl at h;split at h;exact⟨[_],rfl,rfl,.trans (by kernel_rfl) h⟩;cases h
theorem acQ (N:Nat) (SQ7:jN) (hQ7:ab Pg 150 (FQ7 SQ7)):ab Pg 140 (Yl (ZB N SQ7)):=by
 refine gfZ N false (aa hQ7 (ae _)) 2 ?_;intro a k h;unfold afL at h;split at h;exact⟨[_,_],rfl,rfl,.trans (by kernel_rfl) h⟩;cases h
theorem acK (N:Nat) (ayD:Hh) (aDX:ab Pg 140 (Yl ayD)):ab Pg 172 (Yh (Zx N ayD)):=by
 refine gfZ N false (aa aDX (ae _)) 1 ?_;intro a k h;unfold afG at h;split at h;exact⟨[_],rfl,rfl,.trans (by kernel_rfl) h⟩;cases h
theorem adj (N:Nat) (ayI:Ho) (ayk:GX) (ayz:Hc) (aD8:ab Pg 170 (Yt ayI)) (aDx:ab Pg 171 (X3 ayk)) (aDT:ab Pg 172 (Yh ayz)):ab Pg 139 (YG (ZT N ayI ayk ayz)):=by
 refine gfV N (aa aD8 (aa aDx (aa aDT (ae _)))) 0 ?_;intro a k h;unfold af7 at h;split at h;exact⟨[],rfl,rfl,.trans (by kernel_rfl) h⟩;cases h
def fV:StSh:=⟨(.roi .u32::sqs 4 (.int .i64::.int .u64::.slw 0::.int .i64::sqs 49 [])),[some (195,1,.ints .u32)]⟩
def sO:StSh:=⟨(sqs 7 (.slw 0::sqs 50 [])),[some (195,1,.ints .u32)]⟩
section
variable (N:Nat) (SQ7:jN)
noncomputable abbrev aaP:Cx:=⟨Pg,ao [(150,(FQ7 SQ7))],aB,N⟩
def fN:List Atom->K->Bool:=λa_ κ=>match a_ with
 | [.ints m_1,.int w,.int s,.int i,.ints out]=>ah N (Cw N SQ7 m_1 w s (λr0=>κ.ext 0 (sO.build [.ints r0]))) (i,out)
 | _=>false
def Qv:Nat->Option Ann:=λb_=>cond (b_==0) (some ⟨⟨[0,5,6,7,8],[],[],[]⟩,[(0,⟨[7],[],[],[]⟩)],some ⟨[4],[],[],[]⟩,some (ay [(fV,fN N SQ7)])⟩) (none)
theorem sy:az (aaP N SQ7) 0 (Qv N SQ7) (lp Pg 181 0) (fV,fN N SQ7):=by
 intro a κ h;simp only at h;unfold fN at h;split at h
 ·rename_i m_1 w s i out;exact .trans (aA (λ(v_:Int × LI)=>fV.build [.ints m_1,.int w,.int s,.int v_.1,.ints v_.2]) (λv_ K_=>by obtain⟨i,out⟩:=v_; kernel_rfl) N (i,out)) h
 ·cases h
theorem vV:aC (aaP N SQ7) 0 (Qv N SQ7) (lp Pg 181 0):=
 au [(fV,fN N SQ7)] (by kernel_rfl) ⟨sy _ _,trivial⟩
theorem adb (hQ7:ab Pg 150 (FQ7 SQ7)):ab Pg 181 (YB (T9 N SQ7)):=by
 refine aT (md:=false) (cx:=(aaP N SQ7)) (aD (aa hQ7 (ae _)) (by kernel_rfl)) VT (SN (T9 N SQ7)) (Qv N SQ7) 1 0 (by kernel_rfl) (aJ (vV _ _)) ?_;intro a k h;unfold SN at h;split at h;exact⟨[],rfl,rfl,.trans (by kernel_rfl) h⟩;cases h
end
theorem acb (N:Nat) (ayP:Hx) (atq:pP) (aEh:ab Pg 181 (YB ayP)) (azb:ab Pg 140 (GA atq)):ab Pg 168 (Tl (Zb N ayP atq)):=by
 refine gfZ N false (aa aEh (aa azb (ae _))) 2 ?_;intro a k h;unfold afi at h;split at h;exact⟨[_,_],rfl,rfl,.trans (by kernel_rfl) h⟩;cases h
theorem abT (N:Nat) (awp:BA) (aBx:ab Pg 168 (Tl awp)):ab Pg 166 (XT (Y2 N awp)):=by
 refine gfV N (aa aBx (ae _)) 1 ?_;intro a k h;unfold ae8 at h;split at h;exact⟨[_],rfl,rfl,.trans (by kernel_rfl) h⟩;cases h
theorem abQ (N:Nat):ab Pg 143 (CD (Na N)):=by
 refine gfZ N false (ae _) 0 ?_;intro a k h;unfold ae6 at h;split at h;exact⟨[],rfl,rfl,.trans (by kernel_rfl) h⟩;cases h
theorem abY (N:Nat) (auX:tn) (aze:ab Pg 150 (Kk auX)):ab Pg 140 (Td (TS N auX)):=by
 refine gfZ N false (aa aze (ae _)) 1 ?_;intro a k h;unfold afa at h;split at h;exact⟨[_],rfl,rfl,.trans (by kernel_rfl) h⟩;cases h
theorem aiE (N:Nat) (auX:tn) (aze:ab Pg 150 (Kk auX)):ab Pg 140 (Wi (Wl N auX)):=by
 refine gfZ N false (aa aze (ae _)) 1 ?_;intro a k h;unfold al2 at h;split at h;exact⟨[_],rfl,rfl,.trans (by kernel_rfl) h⟩;cases h
def aac (N:Nat):Nat->Option Ann:=λb_=>none
theorem ao7 (N:Nat) (x:Int) (c_:KV):qv ⟨Pg,ao [],aB,N⟩ (aac N) 174 (Mv.args [.int x]) [] c_=ZW N x (λr0=>c_ (vwi r0) []):=by
 have key:∀ L_:Int,aQ ⟨Pg,ao [],aB,N⟩ 0 (aac N) (((cds Pg 174).drop 0).map (PK 125613361 L_)) 0 (st0 Pg 174 (Mv.args [.int x]) []) (tC Pg 174 0 c_)=(λ(k0:Kz0)=>cond (x==0) (k0 32) (inR (Int.fdiv (IntKind.wrap .u32 ((aH .and .u32 x (IntKind.wrap .u32 (0 - x)))*L_)) (2 ^ 27)) 32&&(aj .i64 (FU.getD (Int.toNat (Int.fdiv (IntKind.wrap .u32 ((aH .and .u32 x (IntKind.wrap .u32 (0 - x)))*L_)) (2 ^ 27))) 0)&&k0 (FU.getD (Int.toNat (Int.fdiv (IntKind.wrap .u32 ((aH .and .u32 x (IntKind.wrap .u32 (0 - x)))*L_)) (2 ^ 27))) 0)))) (λr0=>c_ (vwi r0) []):=λL_=>by kernel_rfl
 have hc:(cds Pg 174).drop 0=((cds Pg 174).drop 0).map (PK 125613361 125613361):=by kernel_rfl
 refine(nT (by kernel_rfl)).trans ?_;rw[hc];exact key 125613361
theorem ail (N:Nat):ab Pg 174 (agR (ZW N)):=by
 refine bH (cx:=⟨Pg,ao [],aB,N⟩) (aD (ae _) (by kernel_rfl)) Mv (agm (ZW N)) (aac N) 0 0 (by kernel_rfl) (λi_ hi_=>by omega) ?_;intro a k h;unfold agm at h;split at h;exact⟨[],rfl,rfl,(ao7 _ _ _).trans h⟩;cases h
def bt:StSh:=⟨(.ptr 0 0::.any::.any::.int .i64::sqs 29 []),[some (151,1,.cells [.bool,.roi .u32])]⟩
def jB:StSh:=⟨(.any::.any::.int .u64::sqs 30 []),[some (151,1,.cells [.bool,.roi .u32])]⟩
def jC:StSh:=⟨(sqs 33 []),[some (151,1,.cells [.bool,.roi .u32])]⟩
section
variable (N:Nat) (av7:Kw)
noncomputable abbrev aaQ:Cx:=⟨Pg,ao [(174,(agR av7))],aB,N⟩
def br:List Atom->K->Bool:=λa_ κ=>match a_ with
 | [.int i,.bool z,.ints z_1]=>ah N (ME N av7 z z_1 (λr0=>κ.ret (jB.build [.int r0,.bool z,.ints z_1])) (κ.ext 0 (jC.build [.bool z,.ints z_1]))) i
 | _=>false
def Z6:Nat->Option Ann:=λb_=>cond (b_==0) (some ⟨⟨[0,3],[],[],[]⟩,[(0,⟨[],[],[],[]⟩)],some ⟨[2],[],[],[]⟩,some (ay [(bt,br N av7)])⟩) (none)
theorem jj:az (aaQ N av7) 1 (Z6 N av7) (lp Pg 144 0) (bt,br N av7):=by
 intro a κ h;simp only at h;unfold br at h;split at h
 ·rename_i i z z_1;exact .trans (aA (λv_=>bt.build [.int v_,.bool z,.ints z_1]) (λv_ K_=>by kernel_rfl) N i) h
 ·cases h
theorem kn:aC (aaQ N av7) 1 (Z6 N av7) (lp Pg 144 0):=
 au [(bt,br N av7)] (by kernel_rfl) ⟨jj _ _,trivial⟩
theorem ahS (aEP:ab Pg 174 (agR av7)):ab Pg 144 (Wa (aha N av7)):=by
 refine aT (md:=false) (cx:=(aaQ N av7)) (aD (aa aEP (ae _)) (by kernel_rfl)) aew (ae9 (aha N av7)) (Z6 N av7) 1 1 (by kernel_rfl) (aJ (kn _ _)) ?_;intro a k h;unfold ae9 at h;split at h;exact⟨[_],rfl,rfl,.trans (by kernel_rfl) h⟩;cases h
def fB:StSh:=⟨(.roi .u32::sqs 4 (.int .i64::.int .u64::.slw 0::.int .i64::sqs 55 [])),[some (195,1,.ints .u32)]⟩
def rJ:StSh:=⟨(sqs 7 (.slw 0::sqs 56 [])),[some (195,1,.ints .u32)]⟩
end
section
variable (N:Nat) (SQ7:jN)
noncomputable abbrev aaR:Cx:=⟨Pg,ao [(150,(FQ7 SQ7))],aB,N⟩
def fk:List Atom->K->Bool:=λa_ κ=>match a_ with
 | [.ints m_1,.int w,.int s,.int i,.ints out]=>ah N (MP N SQ7 m_1 w s (λr0=>κ.ext 0 (rJ.build [.ints r0]))) (i,out)
 | _=>false
def aah:Nat->Option Ann:=λb_=>cond (b_==0) (some ⟨⟨[0,5,6,7,8],[],[],[]⟩,[(0,⟨[7],[],[],[]⟩)],some ⟨[4],[],[],[]⟩,some (ay [(fB,fk N SQ7)])⟩) (none)
theorem rn:az (aaR N SQ7) 0 (aah N SQ7) (lp Pg 145 0) (fB,fk N SQ7):=by
 intro a κ h;simp only at h;unfold fk at h;split at h
 ·rename_i m_1 w s i out;exact .trans (aA (λ(v_:Int × LI)=>fB.build [.ints m_1,.int w,.int s,.int v_.1,.ints v_.2]) (λv_ K_=>by obtain⟨i,out⟩:=v_; kernel_rfl) N (i,out)) h
 ·cases h
theorem vh:aC (aaR N SQ7) 0 (aah N SQ7) (lp Pg 145 0):=
 au [(fB,fk N SQ7)] (by kernel_rfl) ⟨rn _ _,trivial⟩
theorem aiG (hQ7:ab Pg 150 (FQ7 SQ7)):ab Pg 145 (M_ (ahp N SQ7)):=by
 refine aT (md:=false) (cx:=(aaR N SQ7)) (aD (aa hQ7 (ae _)) (by kernel_rfl)) aeN (agu (ahp N SQ7)) (aah N SQ7) 1 0 (by kernel_rfl) (aJ (vh _ _)) ?_;intro a k h;unfold agu at h;split at h;exact⟨[],rfl,rfl,.trans (by kernel_rfl) h⟩;cases h
end
theorem acq (N:Nat):ab Pg 175 (Tm (Zl N)):=by
 refine gfV N (ae _) 0 ?_;intro a k h;unfold afu at h;split at h;exact⟨[],rfl,rfl,.trans (by kernel_rfl) h⟩;cases h
theorem ahY (N:Nat) (awq:BB) (aBz:ab Pg 175 (Tm awq)):ab Pg 146 (M4 (amn N awq)):=by
 refine gfZ N false (aa aBz (ae _)) 1 ?_;intro a k h;unfold alF at h;split at h;exact⟨[_],rfl,rfl,.trans (by kernel_rfl) h⟩;cases h
def eu:StSh:=⟨(.roi .u32::.roi .u32::.any::.any::.any::.int .i64::sqs 35 []),[]⟩
def qg:StSh:=⟨(sqs 4 (.int .i64::sqs 36 [])),[]⟩
def qi:StSh:=⟨(sqs 41 []),[]⟩
def eh (N:Nat):List Atom->K->Bool:=λa_ κ=>match a_ with
 | [.ints a_1,.ints b_1,.int i]=>ah N (Cq N a_1 b_1 (λr0=>κ.ret (qg.build [.int r0])) (κ.ext 0 (qi.build []))) i
 | _=>false
def Z5 (N:Nat):Nat->Option Ann:=λb_=>cond (b_==0) (some ⟨⟨[0,1,5],[],[],[]⟩,[(0,⟨[],[],[],[]⟩)],some ⟨[4],[],[],[]⟩,some (ay [(eu,eh N)])⟩) (none)
theorem pZ (N:Nat):az ⟨Pg,ao [],aB,N⟩ 0 (Z5 N) (lp Pg 148 0) (eu,eh N):=by
 intro a κ h;simp only at h;unfold eh at h;split at h
 ·rename_i a_1 b_1 i;exact .trans (aA (λv_=>eu.build [.ints a_1,.ints b_1,.int v_]) (λv_ K_=>by kernel_rfl) N i) h
 ·cases h
theorem tL (N:Nat):aC ⟨Pg,ao [],aB,N⟩ 0 (Z5 N) (lp Pg 148 0):=
 au [(eu,eh N)] (by kernel_rfl) ⟨pZ _,trivial⟩
theorem ahR (N:Nat):ab Pg 148 (GB (ag_ N)):=by
 refine aT (md:=false) (cx:=⟨Pg,ao [],aB,N⟩) (aD (ae _) (by kernel_rfl)) aev (ae3 (ag_ N)) (Z5 N) 1 0 (by kernel_rfl) (aJ (tL _)) ?_;intro a k h;unfold ae3 at h;split at h;exact⟨[],rfl,rfl,.trans (by kernel_rfl) h⟩;cases h
def fU:StSh:=⟨(sqs 5 (.roi .u32::.int .u64::.int .i64::sqs 20 [])),[]⟩
def sN:StSh:=⟨(sqs 6 (.int .u64::sqs 21 [])),[]⟩
section
variable (N:Nat) (asP:uF)
noncomputable abbrev aaS:Cx:=⟨Pg,ao [(145,(M_ asP))],aB,N⟩
def fM:List Atom->K->Bool:=λa_ κ=>match a_ with
 | [.ints x,.int u,.int i]=>ah N (qs N asP x (λr0=>κ.ext 0 (sN.build [.int r0]))) (u,i)
 | _=>false
def Ql:Nat->Option Ann:=λb_=>cond (b_==0) (some ⟨⟨[5,6,7],[],[],[]⟩,[(0,⟨[6],[],[],[]⟩)],some ⟨[4],[],[],[]⟩,some (ay [(fU,fM N asP)])⟩) (none)
theorem sx:az (aaS N asP) 0 (Ql N asP) (lp Pg 177 0) (fU,fM N asP):=by
 intro a κ h;simp only at h;unfold fM at h;split at h
 ·rename_i x u i;exact .trans (aA (λ(v_:Int × Int)=>fU.build [.ints x,.int v_.1,.int v_.2]) (λv_ K_=>by obtain⟨u,i⟩:=v_; kernel_rfl) N (u,i)) h
 ·cases h
theorem vU:aC (aaS N asP) 0 (Ql N asP) (lp Pg 177 0):=
 au [(fU,fM N asP)] (by kernel_rfl) ⟨sx _ _,trivial⟩
theorem acu (aBQ:ab Pg 145 (M_ asP)):ab Pg 177 (To (TY N asP)):=by
 refine aT (md:=false) (cx:=(aaS N asP)) (aD (aa aBQ (ae _)) (by kernel_rfl)) VG (Sv (TY N asP)) (Ql N asP) 1 0 (by kernel_rfl) (aJ (vU _ _)) ?_;intro a k h;unfold Sv at h;split at h;exact⟨[],rfl,rfl,.trans (by kernel_rfl) h⟩;cases h
def fD:StSh:=⟨(sqs 8 (.int .i64::.int .i64::.int .i64::.int .i64::.int .i64::.int .i64::sqs 71 [])),[]⟩
def rL:StSh:=⟨(sqs 8 (.int .i64::.int .i64::.int .i64::.int .i64::sqs 73 [])),[]⟩
end
def fp (N:Nat):List Atom->K->Bool:=λa_ κ=>match a_ with
 | [.int a,.int b,.int c,.int d,.int p,.int q]=>ah N (qe N (λr0 r1 r2 r3=>κ.ext 0 (rL.build [.int r0,.int r1,.int r2,.int r3]))) (a,b,c,d,p,q)
 | _=>false
def Qk (N:Nat):Nat->Option Ann:=λb_=>cond (b_==0) (some ⟨⟨[8,9,10,11,12,13],[],[],[]⟩,[(0,⟨[8,9,10,11],[],[],[]⟩)],some ⟨[4,5,6,7],[],[],[]⟩,some (ay [(fD,fp N)])⟩) (none)
theorem rr (N:Nat):az ⟨Pg,ao [],aB,N⟩ 0 (Qk N) (lp Pg 176 0) (fD,fp N):=by
 intro a κ h;simp only at h;unfold fp at h;split at h
 ·rename_i a b c d p q;exact .trans (aA (λ(v_:Int × Int × Int × Int × Int × Int)=>fD.build [.int v_.1,.int v_.2.1,.int v_.2.2.1,.int v_.2.2.2.1,.int v_.2.2.2.2.1,.int v_.2.2.2.2.2]) (λv_ K_=>by obtain⟨a,b,c,d,p,q⟩:=v_; kernel_rfl) N (a,b,c,d,p,q)) h
 ·cases h
theorem vj (N:Nat):aC ⟨Pg,ao [],aB,N⟩ 0 (Qk N) (lp Pg 176 0):=
 au [(fD,fp N)] (by kernel_rfl) ⟨rr _,trivial⟩
theorem aca (N:Nat):ab Pg 176 (Tk (TV N)):=by
 refine aT (md:=false) (cx:=⟨Pg,ao [],aB,N⟩) (aD (ae _) (by kernel_rfl)) VE (Sp (TV N)) (Qk N) 1 0 (by kernel_rfl) (aJ (vj _)) ?_;intro a k h;unfold Sp at h;split at h;exact⟨[],rfl,rfl,.trans (by kernel_rfl) h⟩;cases h
def fC:StSh:=⟨(.roi .u32::.int .u32::sqs 4 (.slw 0::.int .u64::.int .i64::sqs 35 [])),[some (195,1,.ints .u32)]⟩
def rK:StSh:=⟨(sqs 6 (.slw 0::.int .u64::sqs 36 [])),[some (195,1,.ints .u32)]⟩
section
variable (N:Nat) (SQ7:jN)
noncomputable abbrev aaT:Cx:=⟨Pg,ao [(150,(FQ7 SQ7))],aB,N⟩
def fo:List Atom->K->Bool:=λa_ κ=>match a_ with
 | [.ints m_1,.int d_1,.int r,.int i,.ints out]=>ah N (pa N SQ7 m_1 d_1 (λr0 r1=>κ.ext 0 (rK.build [.int r0,.ints r1]))) (r,i,out)
 | _=>false
def aaj:Nat->Option Ann:=λb_=>cond (b_==0) (some ⟨⟨[0,1,6,7,8],[],[],[]⟩,[(0,⟨[6,7],[],[],[]⟩)],some ⟨[4,5],[],[],[]⟩,some (ay [(fC,fo N SQ7)])⟩) (none)
theorem rq:az (aaT N SQ7) 0 (aaj N SQ7) (lp Pg 179 0) (fC,fo N SQ7):=by
 intro a κ h;simp only at h;unfold fo at h;split at h
 ·rename_i m_1 d_1 r i out;exact .trans (aA (λ(v_:Int × Int × LI)=>fC.build [.ints m_1,.int d_1,.int v_.1,.int v_.2.1,.ints v_.2.2]) (λv_ K_=>by obtain⟨r,i,out⟩:=v_; kernel_rfl) N (r,i,out)) h
 ·cases h
theorem vi:aC (aaT N SQ7) 0 (aaj N SQ7) (lp Pg 179 0):=
 au [(fC,fo N SQ7)] (by kernel_rfl) ⟨rq _ _,trivial⟩
theorem aiQ (hQ7:ab Pg 150 (FQ7 SQ7)):ab Pg 179 (ag6 (ahr N SQ7)):=by
 refine aT (md:=false) (cx:=(aaT N SQ7)) (aD (aa hQ7 (ae _)) (by kernel_rfl)) aeQ (agx (ahr N SQ7)) (aaj N SQ7) 1 0 (by kernel_rfl) (aJ (vi _ _)) ?_;intro a k h;unfold agx at h;split at h;exact⟨[],rfl,rfl,.trans (by kernel_rfl) h⟩;cases h
end
theorem ahT (N:Nat) (awq:BB) (aBz:ab Pg 175 (Tm awq)):ab Pg 180 (agI (ami N awq)):=by
 refine gfV N (aa aBz (ae _)) 0 ?_;intro a k h;unfold alA at h;split at h;exact⟨[],rfl,rfl,.trans (by kernel_rfl) h⟩;cases h
def dN:StSh:=⟨(.roi .u32::sqs 4 (.int .i64::.int .u64::.slw 0::.int .i64::sqs 49 [])),[some (195,1,.ints .u32)]⟩
def pg:StSh:=⟨(sqs 7 (.slw 0::sqs 50 [])),[some (195,1,.ints .u32)]⟩
section
variable (N:Nat) (SQ7:jN)
noncomputable abbrev aaU:Cx:=⟨Pg,ao [(150,(FQ7 SQ7))],aB,N⟩
def dJ:List Atom->K->Bool:=λa_ κ=>match a_ with
 | [.ints m_1,.int w,.int s,.int i,.ints out]=>ah N (ui N SQ7 m_1 w s (λr0=>κ.ext 0 (pg.build [.ints r0]))) (i,out)
 | _=>false
def Z9:Nat->Option Ann:=λb_=>cond (b_==0) (some ⟨⟨[0,5,6,7,8],[],[],[]⟩,[(0,⟨[7],[],[],[]⟩)],some ⟨[4],[],[],[]⟩,some (ay [(dN,dJ N SQ7)])⟩) (none)
theorem oG:az (aaU N SQ7) 0 (Z9 N SQ7) (lp Pg 181 0) (dN,dJ N SQ7):=by
 intro a κ h;simp only at h;unfold dJ at h;split at h
 ·rename_i m_1 w s i out;exact .trans (aA (λ(v_:Int × LI)=>dN.build [.ints m_1,.int w,.int s,.int v_.1,.ints v_.2]) (λv_ K_=>by obtain⟨i,out⟩:=v_; kernel_rfl) N (i,out)) h
 ·cases h
theorem rA:aC (aaU N SQ7) 0 (Z9 N SQ7) (lp Pg 181 0):=
 au [(dN,dJ N SQ7)] (by kernel_rfl) ⟨oG _ _,trivial⟩
theorem ah7 (hQ7:ab Pg 150 (FQ7 SQ7)):ab Pg 181 (agM (ahf N SQ7)):=by
 refine bH (cx:=(aaU N SQ7)) (aD (aa hQ7 (ae _)) (by kernel_rfl)) aeA (agd (ahf N SQ7)) (Z9 N SQ7) 1 0 (by kernel_rfl) (aJ (rA _ _)) ?_;intro a k h;unfold agd at h;split at h;exact⟨[],rfl,rfl,.trans (by kernel_rfl) h⟩;cases h
def dY:StSh:=⟨(.sl 0::.sl 1::.int .i64::.int .u64::sqs 5 (.int .u64::.int .u64::.int .i64::sqs 79 [])),[some (195,1,.ints .u32),some (195,1,.ints .u32)]⟩
def pD:StSh:=⟨(.sl 0::.sl 1::.int .i64::sqs 6 (.int .u64::.int .u64::sqs 80 [])),[some (195,1,.ints .u32),some (195,1,.ints .u32)]⟩
end
def dW (N:Nat):List Atom->K->Bool:=λa_ κ=>match a_ with
 | [.nat u,.nat u_2,.nat d,.nat d_2,.int j_1,.int g_1,.int carry,.int borrow,.int i,.ints u_3,.ints d_3]=>ah N (MN N u u_2 d d_2 j_1 g_1 d_3 (λr5 r6 r7=>κ.ext 0 (pD.build [.nat u,.nat u_2,.nat d,.nat d_2,.int j_1,.int r5,.int r6,.ints r7,.ints d_3]))) (carry,borrow,i,u_3)
 | _=>false
def aaa (N:Nat):Nat->Option Ann:=λb_=>cond (b_==0) (some ⟨⟨[0,1,2,3,9,10,11],[],[],[]⟩,[(0,⟨[0,1,2,9,10],[],[],[]⟩)],some ⟨[8],[],[],[]⟩,some (ay [(dY,dW N)])⟩) (none)
theorem pr (N:Nat):az ⟨Pg,ao [],aB,N⟩ 2 (aaa N) (lp Pg 182 0) (dY,dW N):=by
 intro a κ h;simp only at h;unfold dW at h;split at h
 ·rename_i u u_2 d d_2 j_1 g_1 carry borrow i u_3 d_3;exact .trans (aA (λ(v_:Int × Int × Int × LI)=>dY.build [.nat u,.nat u_2,.nat d,.nat d_2,.int j_1,.int g_1,.int v_.1,.int v_.2.1,.int v_.2.2.1,.ints v_.2.2.2,.ints d_3]) (λv_ K_=>by obtain⟨carry,borrow,i,u_3⟩:=v_; kernel_rfl) N (carry,borrow,i,u_3)) h
 ·cases h
theorem sF (N:Nat):aC ⟨Pg,ao [],aB,N⟩ 2 (aaa N) (lp Pg 182 0):=
 au [(dY,dW N)] (by kernel_rfl) ⟨pr _,trivial⟩
theorem aid (N:Nat):ab Pg 182 (agO (ahh N)):=by
 refine aT (md:=false) (cx:=⟨Pg,ao [],aB,N⟩) (aD (ae _) (by kernel_rfl)) aeD (agh (ahh N)) (aaa N) 1 2 (by kernel_rfl) (aJ (sF _)) ?_;intro a k h;unfold agh at h;split at h;exact⟨[_,_],rfl,rfl,.trans (by kernel_rfl) h⟩;cases h
def dZ:StSh:=⟨(.sl 0::.sl 1::.int .i64::.any::.any::.any::.int .u64::.int .i64::sqs 42 []),[some (195,1,.ints .u32),some (195,1,.ints .u32)]⟩
def pE:StSh:=⟨(.sl 0::.sl 1::.int .i64::.any::.any::.any::.int .u64::sqs 43 []),[some (195,1,.ints .u32),some (195,1,.ints .u32)]⟩
def dX (N:Nat):List Atom->K->Bool:=λa_ κ=>match a_ with
 | [.nat u,.nat u_2,.nat d,.nat d_2,.int j_1,.int carry,.int i,.ints u_3,.ints d_3]=>ah N (MO N u u_2 d d_2 j_1 d_3 (λr5 r6=>κ.ext 0 (pE.build [.nat u,.nat u_2,.nat d,.nat d_2,.int j_1,.int r5,.ints r6,.ints d_3]))) (carry,i,u_3)
 | _=>false
def aab (N:Nat):Nat->Option Ann:=λb_=>cond (b_==0) (some ⟨⟨[0,1,2,6,7],[],[],[]⟩,[(0,⟨[0,1,2,6],[],[],[]⟩)],some ⟨[],[],[],[]⟩,some (ay [(dZ,dX N)])⟩) (none)
theorem pu (N:Nat):az ⟨Pg,ao [],aB,N⟩ 2 (aab N) (lp Pg 183 0) (dZ,dX N):=by
 intro a κ h;simp only at h;unfold dX at h;split at h
 ·rename_i u u_2 d d_2 j_1 carry i u_3 d_3;exact .trans (aA (λ(v_:Int × Int × LI)=>dZ.build [.nat u,.nat u_2,.nat d,.nat d_2,.int j_1,.int v_.1,.int v_.2.1,.ints v_.2.2,.ints d_3]) (λv_ K_=>by obtain⟨carry,i,u_3⟩:=v_; kernel_rfl) N (carry,i,u_3)) h
 ·cases h
theorem sG (N:Nat):aC ⟨Pg,ao [],aB,N⟩ 2 (aab N) (lp Pg 183 0):=
 au [(dZ,dX N)] (by kernel_rfl) ⟨pu _,trivial⟩
theorem aie (N:Nat):ab Pg 183 (agP (ahi N)):=by
 refine aT (md:=false) (cx:=⟨Pg,ao [],aB,N⟩) (aD (ae _) (by kernel_rfl)) aeE (agi (ahi N)) (aab N) 1 2 (by kernel_rfl) (aJ (sG _)) ?_;intro a k h;unfold agi at h;split at h;exact⟨[_,_],rfl,rfl,.trans (by kernel_rfl) h⟩;cases h
def fw:StSh:=⟨(.sl 0::sqs 20 []),[some (195,1,.ints .u32)]⟩
def rG:StSh:=⟨(.sl 0::sqs 20 []),[some (195,1,.ints .u32)]⟩
def fh (N:Nat):List Atom->K->Bool:=λa_ κ=>match a_ with
 | [.nat m,.nat m_2,.ints m_3]=>ah N (Ct N m m_3 (λr1=>κ.ext 0 (rG.build [.nat m,.nat r1,.ints m_3]))) m_2
 | _=>false
def aak (N:Nat):Nat->Option Ann:=λb_=>cond (b_==0) (some ⟨⟨[0],[],[],[]⟩,[(0,⟨[0],[],[],[]⟩)],some ⟨[2],[],[],[]⟩,some (ay [(fw,fh N)])⟩) (none)
theorem rj (N:Nat):az ⟨Pg,ao [],aB,N⟩ 1 (aak N) (lp Pg 150 0) (fw,fh N):=by
 intro a κ h;simp only at h;unfold fh at h;split at h
 ·rename_i m m_2 m_3;exact .trans (aA (λv_=>fw.build [.nat m,.nat v_,.ints m_3]) (λv_ K_=>by kernel_rfl) N m_2) h
 ·cases h
theorem vc (N:Nat):aC ⟨Pg,ao [],aB,N⟩ 1 (aak N) (lp Pg 150 0):=
 au [(fw,fh N)] (by kernel_rfl) ⟨rj _,trivial⟩
theorem aiR (N:Nat):ab Pg 150 (ag7 (ahs N)):=by
 refine aT (md:=false) (cx:=⟨Pg,ao [],aB,N⟩) (aD (ae _) (by kernel_rfl)) aeR (agy (ahs N)) (aak N) 1 1 (by kernel_rfl) (aJ (vc _)) ?_;intro a k h;unfold agy at h;split at h;exact⟨[_],rfl,rfl,.trans (by kernel_rfl) h⟩;cases h
def eA:StSh:=⟨(.sl 0::sqs 4 (.int .i64::.int .u64::.slw 1::.int .i64::sqs 55 [])),[some (195,1,.ints .u32),some (195,1,.ints .u32)]⟩
def qh:StSh:=⟨(sqs 7 (.slw 1::sqs 56 [])),[some (195,1,.ints .u32),some (195,1,.ints .u32)]⟩
section
variable (N:Nat) (SQ7:jN)
noncomputable abbrev aaV:Cx:=⟨Pg,ao [(150,(FQ7 SQ7))],aB,N⟩
def ek:List Atom->K->Bool:=λa_ κ=>match a_ with
 | [.nat m,.nat m_2,.int w,.int s,.int i,.ints m_3,.ints out]=>ah N (mL N SQ7 m m_2 w s m_3 (λr1=>κ.ext 0 (qh.build [.ints m_3,.ints r1]))) (i,out)
 | _=>false
def aae:Nat->Option Ann:=λb_=>cond (b_==0) (some ⟨⟨[0,5,6,7,8],[],[],[]⟩,[(0,⟨[7],[],[],[]⟩)],some ⟨[4],[],[],[]⟩,some (ay [(eA,ek N SQ7)])⟩) (none)
theorem p6:az (aaV N SQ7) 1 (aae N SQ7) (lp Pg 145 0) (eA,ek N SQ7):=by
 intro a κ h;simp only at h;unfold ek at h;split at h
 ·rename_i m m_2 w s i m_3 out;exact .trans (aA (λ(v_:Int × LI)=>eA.build [.nat m,.nat m_2,.int w,.int s,.int v_.1,.ints m_3,.ints v_.2]) (λv_ K_=>by obtain⟨i,out⟩:=v_; kernel_rfl) N (i,out)) h
 ·cases h
theorem tM:aC (aaV N SQ7) 1 (aae N SQ7) (lp Pg 145 0):=
 au [(eA,ek N SQ7)] (by kernel_rfl) ⟨p6 _ _,trivial⟩
theorem aip (hQ7:ab Pg 150 (FQ7 SQ7)):ab Pg 145 (agV (ahl N SQ7)):=by
 refine aT (md:=false) (cx:=(aaV N SQ7)) (aD (aa hQ7 (ae _)) (by kernel_rfl)) aeH (ago (ahl N SQ7)) (aae N SQ7) 1 1 (by kernel_rfl) (aJ (tM _ _)) ?_;intro a k h;unfold ago at h;split at h;exact⟨[_],rfl,rfl,.trans (by kernel_rfl) h⟩;cases h
end
def fW:StSh:=⟨(.roi .u32::sqs 7 (.int .u64::.nil::.slz 0::sqs 149 [])),[some (195,1,.ints .u32)]⟩
def sP:StSh:=⟨(sqs 8 (.int .u64::.nil::.slz 0::sqs 149 [])),[some (195,1,.ints .u32)]⟩
section
variable (N:Nat) (ash:l6) (ata:CV) (SQ7:jN) (as9:CI) (as5:CL) (atf:CM) (atg:CN) (ati:CW) (ath:CP)
noncomputable abbrev vI:Cx:=⟨Pg,ao [(148,(GB ash)),(179,(ag6 ata)),(150,(EP (FQ7 SQ7) (ag7 ati) aeL)),(180,(agI as9)),(181,(agM as5)),(182,(agO atf)),(183,(agP atg)),(145,(agV ath))],aB,N⟩
def fO:List Atom->K->Bool:=λa_ κ=>match a_ with
 | [.ints a_1,.int s,.nat u,.ints u_1]=>ah N (JF N ash ata SQ7 as9 as5 atf atg ati ath a_1 s (λr1 r2=>κ.ext 0 (sP.build [.int s,.nat r1,.ints r2]))) (u,u_1)
 | _=>false
def eW:StSh:=⟨(.roi .u32::sqs 7 (.int .u64::.slz 0::.slz 1::sqs 149 [])),[some (195,1,.ints .u32),some (195,1,.ints .u32)]⟩
def q_:StSh:=⟨(sqs 8 (.int .u64::.slz 0::.slz 1::sqs 149 [])),[some (195,1,.ints .u32),some (195,1,.ints .u32)]⟩
def eQ:List Atom->K->Bool:=λa_ κ=>match a_ with
 | [.ints a_2,.int s_1,.nat d,.nat u_6,.ints d_1,.ints u_7]=>ah N (vu N ash ata SQ7 as9 as5 atf atg ati ath a_2 s_1 d d_1 (λr2 r4=>κ.ext 0 (q_.build [.int s_1,.nat d,.nat r2,.ints d_1,.ints r4]))) (u_6,u_7)
 | _=>false
def fY:StSh:=⟨(sqs 8 (.int .u64::.slz 0::.slz 1::.int .i64::.slw 2::.int .u64::.int .i64::.any::.int .u64::.int .u64::sqs 142 [])),[some (195,1,.ints .u32),some (195,1,.ints .u32),some (195,1,.ints .u32)]⟩
def sR:StSh:=⟨(sqs 8 (.int .u64::.slz 0::.slz 1::.int .i64::.slw 2::.int .u64::.int .i64::.any::.int .u64::sqs 143 [])),[some (195,1,.ints .u32),some (195,1,.ints .u32),some (195,1,.ints .u32)]⟩
def fQ:List Atom->K->Bool:=λa_ κ=>match a_ with
 | [.int s_5,.nat d_6,.nat axc,.int n_1,.int axT,.int j_1,.int g,.int r,.ints d_7,.ints axk,.ints q_1]=>ah N (vv N ash ata SQ7 as9 as5 atf atg ati ath s_5 d_6 axc n_1 axT j_1 d_7 axk q_1 (λr6=>κ.ext 4 (sR.build [.int s_5,.nat d_6,.nat axc,.int n_1,.int axT,.int j_1,.int r6,.ints d_7,.ints axk,.ints q_1]))) (g,r)
 | _=>false
def fX:StSh:=⟨(sqs 8 (.int .u64::.slz 0::.slz 1::.int .i64::.slw 2::.int .u64::.int .i64::sqs 145 [])),[some (195,1,.ints .u32),some (195,1,.ints .u32),some (195,1,.ints .u32)]⟩
def sQ:StSh:=⟨(sqs 8 (.int .u64::.any::.slz 0::.int .i64::.slw 1::sqs 147 [])),[some (195,1,.ints .u32),some (195,1,.ints .u32)]⟩
def fP:List Atom->K->Bool:=λa_ κ=>match a_ with
 | [.int s_4,.nat d_4,.nat avN,.int n,.int top,.int j,.ints d_5,.ints avk,.ints q]=>ah N (nE N ash ata SQ7 as9 as5 atf atg ati ath s_4 d_4 avN n top d_5 (λr3 r4=>κ.ext 2 (sQ.build [.int s_4,.nat avN,.int n,.ints r3,.ints r4]))) (j,avk,q)
 | _=>false
def vD:Nat->Option Ann:=λb_=>cond (b_==0) (some ⟨⟨[0,8,9,10],[(10,none,390),(10,some 0,0)],[],[]⟩,[(0,⟨[8,9,10],[],[],[]⟩)],some ⟨[4,5],[],[],[]⟩,some (ay [(fW,fO N ash ata SQ7 as9 as5 atf atg ati ath),(eW,eQ N ash ata SQ7 as9 as5 atf atg ati ath)])⟩) (cond (b_==4) (some ⟨⟨[8,9,10,11,12,13,14,16,17],[],[],[]⟩,[(4,⟨[8,9,10,11,12,13,14,16],[],[],[]⟩)],some ⟨[4,5],[],[],[]⟩,some (ay [(fY,fQ N ash ata SQ7 as9 as5 atf atg ati ath)])⟩) (cond (b_==2) (some ⟨⟨[8,9,10,11,12,13,14],[],[],[]⟩,[(2,⟨[8,10,11,12],[],[],[]⟩)],some ⟨[4,5],[],[],[]⟩,some (ay [(fX,fP N ash ata SQ7 as9 as5 atf atg ati ath)])⟩) (none)))
theorem sA:az (vI N ash ata SQ7 as9 as5 atf atg ati ath) 0 (vD N ash ata SQ7 as9 as5 atf atg ati ath) (lp Pg 149 0) (fW,fO N ash ata SQ7 as9 as5 atf atg ati ath):=by
 intro a κ h;simp only at h;unfold fO at h;split at h
 ·rename_i a_1 s u u_1;exact .trans (aA (λ(v_:Nat × LI)=>fW.build [.ints a_1,.int s,.nat v_.1,.ints v_.2]) (λv_ K_=>by obtain⟨u,u_1⟩:=v_; kernel_rfl) N (u,u_1)) h
 ·cases h
theorem qI:az (vI N ash ata SQ7 as9 as5 atf atg ati ath) 0 (vD N ash ata SQ7 as9 as5 atf atg ati ath) (lp Pg 149 0) (eW,eQ N ash ata SQ7 as9 as5 atf atg ati ath):=by
 intro a κ h;simp only at h;unfold eQ at h;split at h
 ·rename_i a_2 s_1 d u_6 d_1 u_7;exact .trans (aA (λ(v_:Nat × LI)=>eW.build [.ints a_2,.int s_1,.nat d,.nat v_.1,.ints d_1,.ints v_.2]) (λv_ K_=>by obtain⟨u_6,u_7⟩:=v_; kernel_rfl) N (u_6,u_7)) h
 ·cases h
theorem sC:az (vI N ash ata SQ7 as9 as5 atf atg ati ath) 0 (vD N ash ata SQ7 as9 as5 atf atg ati ath) (lp Pg 149 2) (fY,fQ N ash ata SQ7 as9 as5 atf atg ati ath):=by
 intro a κ h;simp only at h;unfold fQ at h;split at h
 ·rename_i s_5 d_6 axc n_1 axT j_1 g r d_7 axk q_1;exact .trans (aA (λ(v_:Int × Int)=>fY.build [.int s_5,.nat d_6,.nat axc,.int n_1,.int axT,.int j_1,.int v_.1,.int v_.2,.ints d_7,.ints axk,.ints q_1]) (λv_ K_=>by obtain⟨g,r⟩:=v_; kernel_rfl) N (g,r)) h
 ·cases h
theorem sB:az (vI N ash ata SQ7 as9 as5 atf atg ati ath) 0 (vD N ash ata SQ7 as9 as5 atf atg ati ath) (lp Pg 149 1) (fX,fP N ash ata SQ7 as9 as5 atf atg ati ath):=by
 intro a κ h;simp only at h;unfold fP at h;split at h
 ·rename_i s_4 d_4 avN n top j d_5 avk q;exact .trans (aA (λ(v_:Int × LI × LI)=>fX.build [.int s_4,.nat d_4,.nat avN,.int n,.int top,.int v_.1,.ints d_5,.ints v_.2.1,.ints v_.2.2]) (λv_ K_=>by obtain⟨j,avk,q⟩:=v_; kernel_rfl) N (j,avk,q)) h
 ·cases h
theorem vW:aC (vI N ash ata SQ7 as9 as5 atf atg ati ath) 0 (vD N ash ata SQ7 as9 as5 atf atg ati ath) (lp Pg 149 0):=
 au [(fW,fO N ash ata SQ7 as9 as5 atf atg ati ath),(eW,eQ N ash ata SQ7 as9 as5 atf atg ati ath)] (by kernel_rfl) ⟨sA _ _ _ _ _ _ _ _ _ _,qI _ _ _ _ _ _ _ _ _ _,trivial⟩
theorem vY:aC (vI N ash ata SQ7 as9 as5 atf atg ati ath) 0 (vD N ash ata SQ7 as9 as5 atf atg ati ath) (lp Pg 149 2):=
 au [(fY,fQ N ash ata SQ7 as9 as5 atf atg ati ath)] (by kernel_rfl) ⟨sC _ _ _ _ _ _ _ _ _ _,trivial⟩
theorem vX:aC (vI N ash ata SQ7 as9 as5 atf atg ati ath) 0 (vD N ash ata SQ7 as9 as5 atf atg ati ath) (lp Pg 149 1):=
 au [(fX,fP N ash ata SQ7 as9 as5 atf atg ati ath)] (by kernel_rfl) ⟨sB _ _ _ _ _ _ _ _ _ _,trivial⟩
def Rt (d_:List V) (u_:List (Option Blk)) (a b:LI) (s_3:Int) (d_2 avw:Nat) (d_3 awb:LI):St:=⟨(dqs d_ 0 8 (vwu s_3::.sl 0 0 d_2::.sl 1 0 avw::dqs d_ 8 149 [])),[some ⟨195,1,.ints .u32 d_3⟩,some ⟨195,1,.ints .u32 awb⟩]⟩
def Rq (d_:List V) (u_:List (Option Blk)) (a b:LI) (s_2:Int) (av4:Nat) (awl:LI):St:=⟨(dqs d_ 0 8 (vwu s_2::.nil::.sl 0 0 av4::dqs d_ 8 149 [])),[some ⟨195,1,.ints .u32 awl⟩]⟩
theorem anS (d_:List V) (u_:List (Option Blk)) (a b:LI) (s_3:Int) (d_2 avw:Nat) (d_3 awb:LI) (c_:KV):aQ (vI N ash ata SQ7 as9 as5 atf atg ati ath) 0 (vD N ash ata SQ7 as9 as5 atf atg ati ath) ((cds Pg 149).drop 9) 0 (Rt d_ u_ a b s_3 d_2 avw d_3 awb) (kB false Pg 149 0 c_)=Ue N ash ata SQ7 as9 as5 atf atg ati ath a b s_3 d_2 avw d_3 awb (λr0 r1=>c_ (.tup [vws r0,vws r1]) []):=by kernel_rfl
theorem anP (d_:List V) (u_:List (Option Blk)) (a b:LI) (s_2:Int) (av4:Nat) (awl:LI) (c_:KV):aQ (vI N ash ata SQ7 as9 as5 atf atg ati ath) 0 (vD N ash ata SQ7 as9 as5 atf atg ati ath) ((cds Pg 149).drop 9) 0 (Rq d_ u_ a b s_2 av4 awl) (kB false Pg 149 0 c_)=Z0 N ash ata SQ7 as9 as5 atf atg ati ath a b s_2 av4 awl (λr0 r1=>c_ (.tup [vws r0,vws r1]) []):=by kernel_rfl
theorem J3 (a b:LI) (c_:KV) (κn_:St->Bool):aQ (vI N ash ata SQ7 as9 as5 atf atg ati ath) 0 (vD N ash ata SQ7 as9 as5 atf atg ati ath) (sg Pg 149 0 9) 0 (st0 Pg 149 (Jt.args [.ints a,.ints b]) []) { (kB false Pg 149 0 c_)with nrm:=κn_ } = (ash a b (λnr=>cond (decide (nr<0)) (decide ((List.length ([]++a))*4<=140737488355328)&&c_ (.tup [.roi .u32 [],vws ([]++a)]) []) (cond (((b.length:Nat):Int)==1) (inR 0 b.length&&ata a (b.getD 0 0) (λnsr ask=>SQ7 [ask] (λmr=>decide ((0+mr)<=(List.length [ask]))&&c_ (.tup [vws nsr,vws (List.take mr (List.drop 0 [ask]))]) []))) (aj .i64 (((b.length:Nat):Int) - 1)&&(inR (((b.length:Nat):Int) - 1) b.length&&as9 (b.getD (Int.toNat (((b.length:Nat):Int) - 1)) 0) (λasl=>as5 b (IntKind.wrap .u64 asl) (as5 a (IntKind.wrap .u64 asl) (ah N (JF N ash ata SQ7 as9 as5 atf atg ati ath a (IntKind.wrap .u64 asl) (λu_2 u_3=>κn_ (Rq (vqs 157 []) [] a b (IntKind.wrap .u64 asl) u_2 u_3))) (0,[])) (λaty asy=>ah N (JF N ash ata SQ7 as9 as5 atf atg ati ath a (IntKind.wrap .u64 asl) (λu_4 u_5=>κn_ (Rq (vqs 157 []) [] a b (IntKind.wrap .u64 asl) u_4 u_5))) (aty,asy))) (λauL asj=>as5 a (IntKind.wrap .u64 asl) (ah N (vu N ash ata SQ7 as9 as5 atf atg ati ath a (IntKind.wrap .u64 asl) auL asj (λu_8 u_9=>κn_ (Rt (vqs 157 []) [] a b (IntKind.wrap .u64 asl) auL u_8 asj u_9))) (0,[])) (λay6 ast=>ah N (vu N ash ata SQ7 as9 as5 atf atg ati ath a (IntKind.wrap .u64 asl) auL asj (λauH avx=>κn_ (Rt (vqs 157 []) [] a b (IntKind.wrap .u64 asl) auL auH asj avx))) (ay6,ast))))))))):=by kernel_rfl
theorem J8 (a b:LI) (c_:KV):aQ (vI N ash ata SQ7 as9 as5 atf atg ati ath) 0 (vD N ash ata SQ7 as9 as5 atf atg ati ath) ((cds Pg 149).drop 0) 0 (st0 Pg 149 (Jt.args [.ints a,.ints b]) []) (kB false Pg 149 0 c_)=Nd N ash ata SQ7 as9 as5 atf atg ati ath a b (λr0 r1=>c_ (.tup [vws r0,vws r1]) []):=by rw[cY 0 9 9 rfl];refine(J3 N ash ata SQ7 as9 as5 atf atg ati ath a b c_ _).trans ?_;simp only[anP,anS];kernel_rfl
theorem ao9 (a b:LI) (c_:KV):qw false (vI N ash ata SQ7 as9 as5 atf atg ati ath) (vD N ash ata SQ7 as9 as5 atf atg ati ath) 149 (Jt.args [.ints a,.ints b]) [] c_=Nd N ash ata SQ7 as9 as5 atf atg ati ath a b (λr0 r1=>c_ (.tup [vws r0,vws r1]) []):=
 (iC (by kernel_rfl)).trans (J8 N ash ata SQ7 as9 as5 atf atg ati ath a b c_)
theorem aiu (azU:ab Pg 148 (GB ash)) (aE5:ab Pg 179 (ag6 ata)) (hQ7:ab Pg 150 (FQ7 SQ7)) (aEE:ab Pg 180 (agI as9)) (aEI:ab Pg 181 (agM as5)) (aEL:ab Pg 182 (agO atf)) (aEM:ab Pg 183 (agP atg)) (aE6:ab Pg 150 (ag7 ati)) (aET:ab Pg 145 (agV ath)):ab Pg 149 (M9 (Nd N ash ata SQ7 as9 as5 atf atg ati ath)):=by
 refine aT (md:=false) (cx:=(vI N ash ata SQ7 as9 as5 atf atg ati ath)) (aD (aa azU (aa aE5 (aa (mw hQ7 aE6) (aa aEE (aa aEI (aa aEL (aa aEM (aa aET (ae _))))))))) (by kernel_rfl)) Jt (agp (Nd N ash ata SQ7 as9 as5 atf atg ati ath)) (vD N ash ata SQ7 as9 as5 atf atg ati ath) 3 0 (by kernel_rfl) (λi_ hi_=>by
  match i_,hi_ with
  | 0,_=>exact vW _ _ _ _ _ _ _ _ _ _
  | 1,_=>exact vX _ _ _ _ _ _ _ _ _ _
  | 2,_=>exact vY _ _ _ _ _ _ _ _ _ _
  | (q+3),h=>omega) ?_
 intro a k h;unfold agp at h;split at h;exact⟨[],rfl,rfl,(ao9 _ _ _ _ _ _ _ _ _ _ _ _ _).trans h⟩;cases h
def fF:StSh:=⟨(.roi .u32::.roi .u32::.any::.any::.any::.slw 0::.int .i64::.int .u64::.int .i64::sqs 59 []),[some (195,1,.ints .u32)]⟩
def rN:StSh:=⟨(.roi .u32::.roi .u32::.any::.any::.any::.slw 0::.int .i64::.int .u64::sqs 60 []),[some (195,1,.ints .u32)]⟩
end
section
variable (N:Nat) (SQ7:jN)
noncomputable abbrev Fq:Cx:=⟨Pg,ao [(150,(FQ7 SQ7))],aB,N⟩
def ft:List Atom->K->Bool:=λa_ κ=>match a_ with
 | [.ints a_2,.ints b_2,.int i_1,.int carry,.int k_,.ints ate]=>ah N (pc N SQ7 a_2 b_2 i_1 (λr3 r4=>κ.ext 2 (rN.build [.ints a_2,.ints b_2,.int i_1,.int r3,.ints r4]))) (carry,k_,ate)
 | _=>false
def fE:StSh:=⟨(.roi .u32::.roi .u32::.any::.any::.any::.slw 0::.int .i64::sqs 61 []),[some (195,1,.ints .u32)]⟩
def rM:StSh:=⟨(sqs 5 (.slw 0::sqs 62 [])),[some (195,1,.ints .u32)]⟩
def fq:List Atom->K->Bool:=λa_ κ=>match a_ with
 | [.ints a_1,.ints b_1,.int i,.ints out]=>ah N (pb N SQ7 a_1 b_1 (λr0=>κ.ext 0 (rM.build [.ints r0]))) (i,out)
 | _=>false
def HU:Nat->Option Ann:=λb_=>cond (b_==2) (some ⟨⟨[0,1,5,6,7,8],[],[],[]⟩,[(2,⟨[0,1,5,6,7],[],[],[]⟩)],some ⟨[4],[],[],[]⟩,some (ay [(fF,ft N SQ7)])⟩) (cond (b_==0) (some ⟨⟨[0,1,5,6],[],[],[]⟩,[(0,⟨[5],[],[],[]⟩)],some ⟨[4],[],[],[]⟩,some (ay [(fE,fq N SQ7)])⟩) (none))
theorem ru:az (Fq N SQ7) 0 (HU N SQ7) (lp Pg 128 1) (fF,ft N SQ7):=by
 intro a κ h;simp only at h;unfold ft at h;split at h
 ·rename_i a_2 b_2 i_1 carry k_ ate;exact .trans (aA (λ(v_:Int × Int × LI)=>fF.build [.ints a_2,.ints b_2,.int i_1,.int v_.1,.int v_.2.1,.ints v_.2.2]) (λv_ K_=>by obtain⟨carry,k_,ate⟩:=v_; kernel_rfl) N (carry,k_,ate)) h
 ·cases h
theorem rt:az (Fq N SQ7) 0 (HU N SQ7) (lp Pg 128 0) (fE,fq N SQ7):=by
 intro a κ h;simp only at h;unfold fq at h;split at h
 ·rename_i a_1 b_1 i out;exact .trans (aA (λ(v_:Int × LI)=>fE.build [.ints a_1,.ints b_1,.int v_.1,.ints v_.2]) (λv_ K_=>by obtain⟨i,out⟩:=v_; kernel_rfl) N (i,out)) h
 ·cases h
theorem vl:aC (Fq N SQ7) 0 (HU N SQ7) (lp Pg 128 1):=
 au [(fF,ft N SQ7)] (by kernel_rfl) ⟨ru _ _,trivial⟩
theorem vk:aC (Fq N SQ7) 0 (HU N SQ7) (lp Pg 128 0):=
 au [(fE,fq N SQ7)] (by kernel_rfl) ⟨rt _ _,trivial⟩
theorem abP (hQ7:ab Pg 150 (FQ7 SQ7)):ab Pg 128 (GC (TR N SQ7)):=by
 refine aT (md:=false) (cx:=(Fq N SQ7)) (aD (aa hQ7 (ae _)) (by kernel_rfl)) Vz (Sc (TR N SQ7)) (HU N SQ7) 2 0 (by kernel_rfl) (iL (vk _ _) (vl _ _)) ?_;intro a k h;unfold Sc at h;split at h;exact⟨[],rfl,rfl,.trans (by kernel_rfl) h⟩;cases h
def fA:StSh:=⟨(.roi .u32::.roi .u32::.any::.any::.any::.slw 0::.int .u64::.int .i64::sqs 48 []),[some (195,1,.ints .u32)]⟩
def rI:StSh:=⟨(sqs 5 (.slw 0::sqs 50 [])),[some (195,1,.ints .u32)]⟩
def fj:List Atom->K->Bool:=λa_ κ=>match a_ with
 | [.ints a_1,.ints b_1,.int borrow,.int i,.ints out]=>ah N (o_ N SQ7 a_1 b_1 (λr0=>κ.ext 0 (rI.build [.ints r0]))) (borrow,i,out)
 | _=>false
def Qp:Nat->Option Ann:=λb_=>cond (b_==0) (some ⟨⟨[0,1,5,6,7],[],[],[]⟩,[(0,⟨[5],[],[],[]⟩)],some ⟨[4],[],[],[]⟩,some (ay [(fA,fj N SQ7)])⟩) (none)
theorem rm:az (Fq N SQ7) 0 (Qp N SQ7) (lp Pg 204 0) (fA,fj N SQ7):=by
 intro a κ h;simp only at h;unfold fj at h;split at h
 ·rename_i a_1 b_1 borrow i out;exact .trans (aA (λ(v_:Int × Int × LI)=>fA.build [.ints a_1,.ints b_1,.int v_.1,.int v_.2.1,.ints v_.2.2]) (λv_ K_=>by obtain⟨borrow,i,out⟩:=v_; kernel_rfl) N (borrow,i,out)) h
 ·cases h
theorem vg:aC (Fq N SQ7) 0 (Qp N SQ7) (lp Pg 204 0):=
 au [(fA,fj N SQ7)] (by kernel_rfl) ⟨rm _ _,trivial⟩
theorem acO (hQ7:ab Pg 150 (FQ7 SQ7)):ab Pg 204 (Tw (T3 N SQ7)):=by
 refine aT (md:=false) (cx:=(Fq N SQ7)) (aD (aa hQ7 (ae _)) (by kernel_rfl)) VM (SD (T3 N SQ7)) (Qp N SQ7) 1 0 (by kernel_rfl) (aJ (vg _ _)) ?_;intro a k h;unfold SD at h;split at h;exact⟨[],rfl,rfl,.trans (by kernel_rfl) h⟩;cases h
end
theorem acY (N:Nat) (atC:tm) (at7:pQ) (awd:BH) (az9:ab Pg 202 (Kj atC)) (axN:ab Pg 128 (GC at7)) (aBD:ab Pg 204 (Tw awd)):ab Pg 205 (Yq (ZH N atC at7 awd)):=by
 refine gfZ N false (aa az9 (aa axN (aa aBD (ae _)))) 0 ?_;intro a k h;unfold afS at h;split at h;exact⟨[],rfl,rfl,.trans (by kernel_rfl) h⟩;cases h
theorem acG (N:Nat) (axE:Hl) (aD4:ab Pg 205 (Yq axE)):ab Pg 178 (Tu (T1 N axE)):=by
 refine gfZ N false (aa aD4 (ae _)) 0 ?_;intro a k h;unfold afE at h;split at h;exact⟨[],rfl,rfl,.trans (by kernel_rfl) h⟩;cases h
end Go.Proofs.YteifemaagdeomaaGreatDoor
