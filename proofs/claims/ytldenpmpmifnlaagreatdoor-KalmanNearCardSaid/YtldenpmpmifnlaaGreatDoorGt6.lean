/-
  THE TIES: each printed meaning is what the program does (written by program).
  Conditions: none.
-/
import Derived.Test.YtldenpmpmifnlaaGreatDoorGs
set_option linter.unusedVariables false
namespace Go.Proofs.YtldenpmpmifnlaaGreatDoor
open Go Go.Mach Go.Proofs
set_option maxRecDepth 50000
def gX:StSh:=⟨(sqs 4 (.fn 28 []::.ptr 0 0::sqs 4 (.ptr 1 0::.ptr 2 0::.any::.ptr 3 0::.any::.flt::.slw 4::sqs 44 (.int .i64::.int .i64::sqs 98 [])))),[some (32,1,.cells [.rof,.int .i64,.int .i64,.rof]),some (32,1,.cells [.nil,.int .i64,.int .i64,.nil]),some (41,1,.cells [.flt,.flt,.flt,.nil]),some (87,1,.cells [.bool,.rof,.int .i64,.int .i64,.rof,.rof,.flt,.flt,.slw 5,.slw 6,.flt]),some (23,1,.flts),some (23,1,.flts),some (23,1,.flts)]⟩
def tf:StSh:=⟨(sqs 4 (.fn 28 []::sqs 5 (.ptr 0 0::.ptr 1 0::.any::.ptr 2 0::.any::.flt::.slw 3::sqs 144 []))),[some (32,1,.cells [.nil,.int .i64,.int .i64,.nil]),some (41,1,.cells [.flt,.flt,.flt,.nil]),some (87,1,.cells [.bool,.rof,.int .i64,.int .i64,.rof,.rof,.flt,.flt,.slw 4,.slw 5,.flt]),some (23,1,.flts),some (23,1,.flts),some (23,1,.flts)]⟩
section
variable (N:Nat) (aln:cI) (alV:nz) (SQ4:rT) (SQ0:qX) (SQ1:pm) (alh:aO) (ald:aG) (alf:aI)
noncomputable abbrev u7:Cx:=⟨Pg,ah [(48,(lM aln)),(39,(FX alV)),(49,(Cc (FQ4 SQ4) (FQ1 SQ1) Xz)),(50,(FQ0 SQ0)),(28,(eK alh)),(29,(dG ald)),(51,(dN alf))],am,N⟩
def gS:List Atom->K->Bool:=λa_ κ=>match a_ with
 | [.fl y_1,.int aso,.int am_,.fls s_7,.int s_8,.int s_9,.fls arl,.int anQ,.int ar_,.fl asa,.fl asb,.fl asc,.bool aqy,.fls aqd,.int aqe,.int aqf,.fls aqg,.fls aqh,.fl arw,.fl asr,.fl ap3,.fls x_1,.fls aop,.fls b6]=>al N (gG N aln alV SQ4 SQ0 SQ1 alh ald alf y_1 aso s_7 s_8 s_9 arl anQ ar_ asa asb asc aqd aqe aqf aqg aqh arw asr ap3 aop (λr6 r15 r17=>κ.ext 0 (tf.build [.fl y_1,.int anQ,.int ar_,.fl asa,.fl asb,.fl asc,.bool r6,.fls aqd,.int aqe,.int aqf,.fls aqg,.fls aqh,.fl arw,.fl asr,.fl ap3,.fls r15,.fls aop,.fls r17]))) (am_,aqy,x_1,b6)
 | _=>false
def bw:Nat->Option Ann:=λb_=>cond (b_==0) (some ⟨⟨[4,5,10,11,13,15,16,61,62],[(13,some 9,46)],[],[]⟩,[(0,⟨[4,10,11,13,15,16],[],[],[]⟩)],some ⟨[10,11,12],[],[],[]⟩,some (aF [(gX,gS N aln alV SQ4 SQ0 SQ1 alh ald alf)])⟩) (none)
theorem sP:aH (u7 N aln alV SQ4 SQ0 SQ1 alh ald alf) 0 (bw N aln alV SQ4 SQ0 SQ1 alh ald alf) (lp Pg 27 0) (gX,gS N aln alV SQ4 SQ0 SQ1 alh ald alf):=by
 intro a κ h;simp only at h;unfold gS at h;split at h
 ·rename_i y_1 aso am_ s_7 s_8 s_9 arl anQ ar_ asa asb asc aqy aqd aqe aqf aqg aqh arw asr ap3 x_1 aop b6;exact .trans (aJ (λ(v_:Int × Bool × LF × LF)=>gX.build [.fl y_1,.int aso,.int v_.1,.fls s_7,.int s_8,.int s_9,.fls arl,.int anQ,.int ar_,.fl asa,.fl asb,.fl asc,.bool v_.2.1,.fls aqd,.int aqe,.int aqf,.fls aqg,.fls aqh,.fl arw,.fl asr,.fl ap3,.fls v_.2.2.1,.fls aop,.fls v_.2.2.2]) (λv_ K_=>by obtain⟨am_,aqy,x_1,b6⟩:=v_; kernel_rfl) N (am_,aqy,x_1,b6)) h
 ·cases h
theorem wE:aT (u7 N aln alV SQ4 SQ0 SQ1 alh ald alf) 0 (bw N aln alV SQ4 SQ0 SQ1 alh ald alf) (lp Pg 27 0):=
 aC [(gX,gS N aln alV SQ4 SQ0 SQ1 alh ald alf)] (by kernel_rfl) ⟨sP _ _ _ _ _ _ _ _ _,trivial⟩
def pD (d_:List V) (u_:List (Option Blk)) (s_0:LF) (s_1 s_2:Int) (s_3 h:LF) (r z y_3 apZ:Fl) (atN:Bool) (atO atb:Fl) (b3 atm as0 aqE:LF) (t_2 t_3:Int):St:=⟨(dqs d_ 0 10 (.ptr 0 0::.ptr 1 0::(dq d_ 10)::.ptr 2 0::(dq d_ 11)::.flt y_3::(dq d_ 12)::(dq d_ 13)::.flt apZ::(dq d_ 14)::.ptr 8 0::dqs d_ 15 140 [])),[some ⟨32,1,.cells [.nil,vwi 0,vwi 0,.nil]⟩,some ⟨41,1,.cells [.flt (some 0),.flt (some 0),.flt (some 0),.nil]⟩,some ⟨87,1,.cells [.bool atN,.rof s_0,vwi s_1,vwi s_2,.rof s_3,.rof h,.flt r,.flt atO,.slw 4,.slw 5,.flt atb]⟩,some ⟨23,1,.flts b3⟩,some ⟨23,1,.flts atm⟩,some ⟨23,1,.flts as0⟩,some ⟨23,1,.flts aqE⟩,(u_.getD 0 none),some ⟨32,1,.cells [.slw 3,vwi t_2,vwi t_3,.slw 6]⟩]⟩
def pC (d_:List V) (u_:List (Option Blk)) (s_0:LF) (s_1 s_2:Int) (s_3 h:LF) (r z y_2 score:Fl) (atL:Bool) (atM ata:Fl) (aq_ asZ:LF) (t t_1:Int):St:=⟨(dqs d_ 0 10 (.ptr 0 0::.ptr 1 0::(dq d_ 10)::.ptr 2 0::(dq d_ 11)::.flt y_2::(dq d_ 12)::(dq d_ 13)::.flt score::(dq d_ 14)::.ptr 8 0::dqs d_ 15 140 [])),[some ⟨32,1,.cells [.nil,vwi 0,vwi 0,.nil]⟩,some ⟨41,1,.cells [.flt (some 0),.flt (some 0),.flt (some 0),.nil]⟩,some ⟨87,1,.cells [.bool atL,.rof s_0,vwi s_1,vwi s_2,.rof s_3,.rof h,.flt r,.flt atM,.slw 4,.slw 5,.flt ata]⟩,(u_.getD 0 none),some ⟨23,1,.flts aq_⟩,some ⟨23,1,.flts asZ⟩,(u_.getD 1 none),(u_.getD 2 none),some ⟨32,1,.cells [.nil,vwi t,vwi t_1,.nil]⟩]⟩
def iZ (d_:List V) (u_:List (Option Blk)) (s_0:LF) (s_1 s_2:Int) (s_3 h:LF) (r z:Fl) (e_2:Int) (u:Bool) (u_1 u_2:Fl) (b4:LF):St:=⟨((dq d_ 0)::.rof h::(dq d_ 1)::.flt z::.fn 28 []::.ptr 0 0::dqs d_ 2 4 (.ptr 1 0::.ptr 2 0::(dq d_ 6)::.ptr 3 0::vwi e_2::dqs d_ 7 146 [])),[some ⟨32,1,.cells [.rof s_0,vwi s_1,vwi s_2,.rof s_3]⟩,some ⟨32,1,.cells [.nil,vwi 0,vwi 0,.nil]⟩,some ⟨41,1,.cells [.flt (some 0),.flt (some 0),.flt (some 0),.nil]⟩,some ⟨87,1,.cells [.bool u,.rof s_0,vwi s_1,vwi s_2,.rof s_3,.rof h,.flt r,.flt u_1,.slw 4,.nil,.flt u_2]⟩,some ⟨23,1,.flts b4⟩,(u_.getD 0 none)]⟩
def pB (d_:List V) (u_:List (Option Blk)) (s_0:LF) (s_1 s_2:Int) (s_3 h:LF) (r z:Fl) (e_1:Int):St:=⟨((dq d_ 0)::.rof h::(dq d_ 1)::.flt z::.fn 28 []::.ptr 0 0::dqs d_ 2 4 (.ptr 1 0::.ptr 2 0::(dq d_ 6)::.val (.pointer none)::vwi e_1::dqs d_ 7 146 [])),[some ⟨32,1,.cells [.rof s_0,vwi s_1,vwi s_2,.rof s_3]⟩,some ⟨32,1,.cells [.nil,vwi 0,vwi 0,.nil]⟩,some ⟨41,1,.cells [.flt (some 0),.flt (some 0),.flt (some 0),.nil]⟩,(u_.getD 0 none)]⟩
def pA (d_:List V) (u_:List (Option Blk)) (s_0:LF) (s_1 s_2:Int) (s_3 h:LF) (r z:Fl) (e:Int):St:=⟨((dq d_ 0)::.rof h::(dq d_ 1)::.flt z::.fn 28 []::.ptr 0 0::dqs d_ 2 4 (.ptr 1 0::.ptr 2 0::(dq d_ 6)::.val (.pointer none)::vwi e::dqs d_ 7 146 [])),[some ⟨32,1,.cells [.rof s_0,vwi s_1,vwi s_2,.rof s_3]⟩,some ⟨32,1,.cells [.nil,vwi 0,vwi 0,.nil]⟩,some ⟨41,1,.cells [.flt (some 0),.flt (some 0),.flt (some 0),.nil]⟩]⟩
theorem wN (d_:List V) (u_:List (Option Blk)) (s_0:LF) (s_1 s_2:Int) (s_3 h:LF) (r z y_3 apZ:Fl) (atN:Bool) (atO atb:Fl) (b3 atm as0 aqE:LF) (t_2 t_3:Int) (c_:KV):bc (u7 N aln alV SQ4 SQ0 SQ1 alh ald alf) 0 (bw N aln alV SQ4 SQ0 SQ1 alh ald alf) ((cds Pg 27).drop 15) 0 (pD d_ u_ s_0 s_1 s_2 s_3 h r z y_3 apZ atN atO atb b3 atm as0 aqE t_2 t_3) (ou Pg 27 0 c_)=mm N aln alV SQ4 SQ0 SQ1 alh ald alf s_0 s_1 s_2 s_3 h r z y_3 apZ atN atO atb b3 atm as0 aqE t_2 t_3 (λr0 r1 r2 r3 r4 r5=>c_ (.tup [.agg [.nil,vwi r0,vwi r1,.nil],.agg [.flt r2,.flt r3,.flt r4,.nil],vwi r5]) []) (λr0 r1 r2 r3 r4 r5 r6=>c_ (.tup [.agg [.nil,vwi r0,vwi r1,.nil],.agg [.flt r2,.flt r3,.flt r4,.slw 0],vwi r5]) [⟨23,1,.flts r6⟩]) (λr0 r1 r2 r3 r4 r5 r6 r7 r8=>c_ (.tup [.agg [.slw 0,vwi r0,vwi r1,.slw 1],.agg [.flt r2,.flt r3,.flt r4,.slw 2],vwi r5]) [⟨23,1,.flts r6⟩,⟨23,1,.flts r7⟩,⟨23,1,.flts r8⟩]):=by kernel_rfl
theorem wM (d_:List V) (u_:List (Option Blk)) (s_0:LF) (s_1 s_2:Int) (s_3 h:LF) (r z y_2 score:Fl) (atL:Bool) (atM ata:Fl) (aq_ asZ:LF) (t t_1:Int) (c_:KV):bc (u7 N aln alV SQ4 SQ0 SQ1 alh ald alf) 0 (bw N aln alV SQ4 SQ0 SQ1 alh ald alf) ((cds Pg 27).drop 15) 0 (pC d_ u_ s_0 s_1 s_2 s_3 h r z y_2 score atL atM ata aq_ asZ t t_1) (ou Pg 27 0 c_)=qa N aln alV SQ4 SQ0 SQ1 alh ald alf s_0 s_1 s_2 s_3 h r z y_2 score atL atM ata aq_ asZ t t_1 (λr0 r1 r2 r3 r4 r5=>c_ (.tup [.agg [.nil,vwi r0,vwi r1,.nil],.agg [.flt r2,.flt r3,.flt r4,.nil],vwi r5]) []) (λr0 r1 r2 r3 r4 r5 r6=>c_ (.tup [.agg [.nil,vwi r0,vwi r1,.nil],.agg [.flt r2,.flt r3,.flt r4,.slw 0],vwi r5]) [⟨23,1,.flts r6⟩]) (λr0 r1 r2 r3 r4 r5 r6 r7 r8=>c_ (.tup [.agg [.slw 0,vwi r0,vwi r1,.slw 1],.agg [.flt r2,.flt r3,.flt r4,.slw 2],vwi r5]) [⟨23,1,.flts r6⟩,⟨23,1,.flts r7⟩,⟨23,1,.flts r8⟩]):=by kernel_rfl
theorem wt (d_:List V) (u_:List (Option Blk)) (s_0:LF) (s_1 s_2:Int) (s_3 h:LF) (r z:Fl) (e_2:Int) (u:Bool) (u_1 u_2:Fl) (b4:LF) (c_:KV) (κn_:St->Bool):bc (u7 N aln alV SQ4 SQ0 SQ1 alh ald alf) 0 (bw N aln alV SQ4 SQ0 SQ1 alh ald alf) (sg Pg 27 4 11) 0 (iZ d_ u_ s_0 s_1 s_2 s_3 h r z e_2 u u_1 u_2 b4) { (ou Pg 27 0 c_)with nrm:=κn_ } = (cond (e_2 != 0) (c_ (.tup [.agg [.nil,vwi 0,vwi 0,.nil],.agg [.flt (some 0),.flt (some 0),.flt (some 0),.nil],vwi e_2]) []) (SQ4 (dF z u_1) u s_0 s_1 s_2 s_3 h r u_1 u_2 b4 (λaoz=>oB 8 ((h.length:Nat):Int) ((h.length:Nat):Int)&&al N (gG N aln alV SQ4 SQ0 SQ1 alh ald alf (dF z u_1) (((List.length (List.replicate (Int.toNat ((h.length:Nat):Int)) (some 0))):Nat):Int) s_0 s_1 s_2 s_3 0 0 (some 0) (some 0) (some 0) s_0 s_1 s_2 s_3 h r u_1 u_2 b4 (λaur x_2 ap9=>SQ0 (dF z u_1) (dF z u_1) aur s_0 s_1 s_2 s_3 h r u_1 u_2 b4 ap9 (λaoM c11=>SQ1 (fdiv aoM u_2) c11 s_0 s_1 s_2 s_3 h r u_1 u_2 b4 ap9 (λc12=>alh c12 s_0 s_1 s_2 s_3 h r u_1 u_2 b4 ap9 (ald c12 s_0 s_1 s_2 s_3 h r u_1 u_2 b4 ap9 (λalQ amB c13 anV=>alf alQ amB c13 s_0 s_1 s_2 s_3 h r u_1 u_2 x_2 anV b4 ap9 (λanB n5 n6=>cond (n6 != 0) (c_ (.tup [.agg [.nil,vwi 0,vwi 0,.nil],.agg [.flt (some 0),.flt (some 0),.flt (some 0),.nil],vwi n6]) []) (κn_ (pC (vqs 4 (.fn 28 []::vqs 6 (vwi n6::.slw 3::.any::.ptr 7 0::vqs 95 (.ptr 2 0::.ptr 2 0::.ptr 2 0::.ptr 2 0::.ptr 2 0::.ptr 2 0::.flt (dF z u_1)::.flt (dF z u_1)::.flt aoM::.ptr 2 0::.ptr 2 0::.ptr 2 10::.flt u_2::.flt (fdiv aoM u_2)::.flt (fdiv aoM u_2)::.fn 28 []::.ptr 2 0::.fn 1000029 [.ptr 2 0]::.agg [vwi alQ,vwi amB,.slw 6]::.tup [.agg [.nil,vwi anB,vwi n5,.nil],vwi n6]::.ptr 2 0::.ptr 2 0::.ptr 2 0::.slw 3::.agg [vwi alQ,vwi amB,.slw 6]::.tup [.agg [.nil,vwi anB,vwi n5,.nil],vwi n6]::.agg [.nil,vwi anB,vwi n5,.nil]::vwi n6::vwi n6::.bool false::vqs 15 [])))) [some ⟨23,1,.flts x_2⟩,some ⟨23,1,.flts anV⟩,some ⟨30,1,.cells [vwi alQ,vwi amB,.slw 6]⟩] s_0 s_1 s_2 s_3 h r z (dF z u_1) (fdiv aoM u_2) c13 u_1 u_2 b4 ap9 anB n5))) (λn7=>cond (n7 != 0) (c_ (.tup [.agg [.nil,vwi 0,vwi 0,.nil],.agg [.flt (some 0),.flt (some 0),.flt (some 0),.nil],vwi n7]) []) (κn_ (pD (vqs 4 (.fn 28 []::vqs 6 (vwi n7::.slw 3::.any::.ptr 7 0::vqs 95 (.ptr 2 0::.ptr 2 0::.ptr 2 0::.ptr 2 0::.ptr 2 0::.ptr 2 0::.flt (dF z u_1)::.flt (dF z u_1)::.flt aoM::.ptr 2 0::.ptr 2 0::.ptr 2 10::.flt u_2::.flt (fdiv aoM u_2)::.flt (fdiv aoM u_2)::.fn 28 []::.ptr 2 0::.fn 1000029 [.ptr 2 0]::.agg [vwi alQ,vwi amB,.slw 6]::.tup [.agg [.slw 3,vwi alQ,vwi amB,.slw 6],vwi n7]::.ptr 2 0::.ptr 2 0::.ptr 2 0::.slw 3::.agg [vwi alQ,vwi amB,.slw 6]::.tup [.agg [.slw 3,vwi alQ,vwi amB,.slw 6],vwi n7]::.agg [.slw 3,vwi alQ,vwi amB,.slw 6]::vwi n7::vwi n7::.bool false::vqs 15 [])))) [some ⟨30,1,.cells [vwi alQ,vwi amB,.slw 6]⟩] s_0 s_1 s_2 s_3 h r z (dF z u_1) (fdiv aoM u_2) c13 u_1 u_2 x_2 b4 ap9 anV alQ amB))))))))) (0,aoz,(List.replicate (Int.toNat ((h.length:Nat):Int)) (some 0)),[])))):=by kernel_rfl
theorem wL (d_:List V) (u_:List (Option Blk)) (s_0:LF) (s_1 s_2:Int) (s_3 h:LF) (r z:Fl) (e_2:Int) (u:Bool) (u_1 u_2:Fl) (b4:LF) (c_:KV):bc (u7 N aln alV SQ4 SQ0 SQ1 alh ald alf) 0 (bw N aln alV SQ4 SQ0 SQ1 alh ald alf) ((cds Pg 27).drop 4) 0 (iZ d_ u_ s_0 s_1 s_2 s_3 h r z e_2 u u_1 u_2 b4) (ou Pg 27 0 c_)=js N aln alV SQ4 SQ0 SQ1 alh ald alf s_0 s_1 s_2 s_3 h r z e_2 u u_1 u_2 b4 (λr0 r1 r2 r3 r4 r5=>c_ (.tup [.agg [.nil,vwi r0,vwi r1,.nil],.agg [.flt r2,.flt r3,.flt r4,.nil],vwi r5]) []) (λr0 r1 r2 r3 r4 r5 r6=>c_ (.tup [.agg [.nil,vwi r0,vwi r1,.nil],.agg [.flt r2,.flt r3,.flt r4,.slw 0],vwi r5]) [⟨23,1,.flts r6⟩]) (λr0 r1 r2 r3 r4 r5 r6 r7 r8=>c_ (.tup [.agg [.slw 0,vwi r0,vwi r1,.slw 1],.agg [.flt r2,.flt r3,.flt r4,.slw 2],vwi r5]) [⟨23,1,.flts r6⟩,⟨23,1,.flts r7⟩,⟨23,1,.flts r8⟩]):=by rw[eD 4 11 15 rfl];refine(wt N aln alV SQ4 SQ0 SQ1 alh ald alf d_ u_ s_0 s_1 s_2 s_3 h r z e_2 u u_1 u_2 b4 c_ _).trans ?_;simp only[wM,wN];kernel_rfl
theorem wK (d_:List V) (u_:List (Option Blk)) (s_0:LF) (s_1 s_2:Int) (s_3 h:LF) (r z:Fl) (e_1:Int) (c_:KV):bc (u7 N aln alV SQ4 SQ0 SQ1 alh ald alf) 0 (bw N aln alV SQ4 SQ0 SQ1 alh ald alf) ((cds Pg 27).drop 4) 0 (pB d_ u_ s_0 s_1 s_2 s_3 h r z e_1) (ou Pg 27 0 c_)=p_ N aln alV SQ4 SQ0 SQ1 alh ald alf s_0 s_1 s_2 s_3 h r z e_1 (λr0 r1 r2 r3 r4 r5=>c_ (.tup [.agg [.nil,vwi r0,vwi r1,.nil],.agg [.flt r2,.flt r3,.flt r4,.nil],vwi r5]) []) (λr0 r1 r2 r3 r4 r5 r6=>c_ (.tup [.agg [.nil,vwi r0,vwi r1,.nil],.agg [.flt r2,.flt r3,.flt r4,.slw 0],vwi r5]) [⟨23,1,.flts r6⟩]) (λr0 r1 r2 r3 r4 r5 r6 r7 r8=>c_ (.tup [.agg [.slw 0,vwi r0,vwi r1,.slw 1],.agg [.flt r2,.flt r3,.flt r4,.slw 2],vwi r5]) [⟨23,1,.flts r6⟩,⟨23,1,.flts r7⟩,⟨23,1,.flts r8⟩]):=by kernel_rfl
theorem wJ (d_:List V) (u_:List (Option Blk)) (s_0:LF) (s_1 s_2:Int) (s_3 h:LF) (r z:Fl) (e:Int) (c_:KV):bc (u7 N aln alV SQ4 SQ0 SQ1 alh ald alf) 0 (bw N aln alV SQ4 SQ0 SQ1 alh ald alf) ((cds Pg 27).drop 4) 0 (pA d_ u_ s_0 s_1 s_2 s_3 h r z e) (ou Pg 27 0 c_)=p9 N aln alV SQ4 SQ0 SQ1 alh ald alf s_0 s_1 s_2 s_3 h r z e (λr0 r1 r2 r3 r4 r5=>c_ (.tup [.agg [.nil,vwi r0,vwi r1,.nil],.agg [.flt r2,.flt r3,.flt r4,.nil],vwi r5]) []) (λr0 r1 r2 r3 r4 r5 r6=>c_ (.tup [.agg [.nil,vwi r0,vwi r1,.nil],.agg [.flt r2,.flt r3,.flt r4,.slw 0],vwi r5]) [⟨23,1,.flts r6⟩]) (λr0 r1 r2 r3 r4 r5 r6 r7 r8=>c_ (.tup [.agg [.slw 0,vwi r0,vwi r1,.slw 1],.agg [.flt r2,.flt r3,.flt r4,.slw 2],vwi r5]) [⟨23,1,.flts r6⟩,⟨23,1,.flts r7⟩,⟨23,1,.flts r8⟩]):=by kernel_rfl
theorem ww (s_0:LF) (s_1 s_2:Int) (s_3 h:LF) (r z:Fl) (c_:KV) (κn_:St->Bool):bc (u7 N aln alV SQ4 SQ0 SQ1 alh ald alf) 0 (bw N aln alV SQ4 SQ0 SQ1 alh ald alf) (sg Pg 27 0 4) 0 (st0 Pg 27 (hK.args [.fls s_0,.int s_1,.int s_2,.fls s_3,.fls h,.fl r,.fl z]) []) { (ou Pg 27 0 c_)with nrm:=κn_ } = (aln s_0 s_1 s_2 s_3 h r (λnr=>cond ((nr==0)==false) (κn_ (pA (.agg [.rof s_0,vwi s_1,vwi s_2,.rof s_3]::.flt r::vqs 4 (vwi 0::vqs 6 (.tup [.val (.pointer none),vwi nr]::.agg [.rof s_0,vwi s_1,vwi s_2,.rof s_3]::.rof h::.flt r::.tup [.val (.pointer none),vwi nr]::.val (.pointer none)::vwi nr::vwi nr::.bool (nr==0)::.bool false::.val (.pointer none)::.bool false::.bool false::.bool false::.val undef::.val undef::.val undef::.val undef::.bool false::vqs 121 []))) [] s_0 s_1 s_2 s_3 h r z nr)) (alV [z] (λalT=>cond (!alT) (c_ (.tup [.agg [.nil,vwi 0,vwi 0,.nil],.agg [.flt (some 0),.flt (some 0),.flt (some 0),.nil],vwi 4]) []) (κn_ (pB (.agg [.rof s_0,vwi s_1,vwi s_2,.rof s_3]::.flt r::vqs 4 (vwi 0::vqs 6 (.tup [.val (.pointer none),vwi nr]::.agg [.rof s_0,vwi s_1,vwi s_2,.rof s_3]::.rof h::.flt r::.tup [.val (.pointer none),vwi nr]::.val (.pointer none)::vwi nr::vwi nr::.bool (nr==0)::.bool true::.val undef::.val undef::.bool true::.bool true::.flt z::.slw 3::.bool alT::.bool (!alT)::.bool false::vqs 121 []))) [some ⟨23,1,.flts [z]⟩] s_0 s_1 s_2 s_3 h r z nr))))) (λaly cr xr anR xsr=>cond ((aly==0)==false) (alV [z] (λamQ=>cond (!amQ) (c_ (.tup [.agg [.nil,vwi 0,vwi 0,.nil],.agg [.flt (some 0),.flt (some 0),.flt (some 0),.nil],vwi 4]) []) (κn_ (iZ (.agg [.rof s_0,vwi s_1,vwi s_2,.rof s_3]::.flt r::vqs 4 (vwi 0::vqs 6 (.tup [.ptr 3 0,vwi aly]::.agg [.rof s_0,vwi s_1,vwi s_2,.rof s_3]::.rof h::.flt r::.tup [.ptr 3 0,vwi aly]::.ptr 3 0::vwi aly::vwi aly::.bool (aly==0)::.bool false::.ptr 3 0::.bool true::.bool true::.bool true::.flt z::.slw 5::.bool amQ::.bool (!amQ)::.bool false::vqs 121 []))) [some ⟨23,1,.flts [z]⟩] s_0 s_1 s_2 s_3 h r z aly cr xr anR xsr)))) (alV [z] (λanA=>cond (!anA) (c_ (.tup [.agg [.nil,vwi 0,vwi 0,.nil],.agg [.flt (some 0),.flt (some 0),.flt (some 0),.nil],vwi 4]) []) (κn_ (iZ (.agg [.rof s_0,vwi s_1,vwi s_2,.rof s_3]::.flt r::vqs 4 (vwi 0::vqs 6 (.tup [.ptr 3 0,vwi aly]::.agg [.rof s_0,vwi s_1,vwi s_2,.rof s_3]::.rof h::.flt r::.tup [.ptr 3 0,vwi aly]::.ptr 3 0::vwi aly::vwi aly::.bool (aly==0)::.bool true::.val undef::.val undef::.bool true::.bool true::.flt z::.slw 5::.bool anA::.bool (!anA)::.bool false::vqs 121 []))) [some ⟨23,1,.flts [z]⟩] s_0 s_1 s_2 s_3 h r z aly cr xr anR xsr)))))):=by kernel_rfl
theorem wO (s_0:LF) (s_1 s_2:Int) (s_3 h:LF) (r z:Fl) (c_:KV):bc (u7 N aln alV SQ4 SQ0 SQ1 alh ald alf) 0 (bw N aln alV SQ4 SQ0 SQ1 alh ald alf) ((cds Pg 27).drop 0) 0 (st0 Pg 27 (hK.args [.fls s_0,.int s_1,.int s_2,.fls s_3,.fls h,.fl r,.fl z]) []) (ou Pg 27 0 c_)=gL N aln alV SQ4 SQ0 SQ1 alh ald alf s_0 s_1 s_2 s_3 h r z (λr0 r1 r2 r3 r4 r5=>c_ (.tup [.agg [.nil,vwi r0,vwi r1,.nil],.agg [.flt r2,.flt r3,.flt r4,.nil],vwi r5]) []) (λr0 r1 r2 r3 r4 r5 r6=>c_ (.tup [.agg [.nil,vwi r0,vwi r1,.nil],.agg [.flt r2,.flt r3,.flt r4,.slw 0],vwi r5]) [⟨23,1,.flts r6⟩]) (λr0 r1 r2 r3 r4 r5 r6 r7 r8=>c_ (.tup [.agg [.slw 0,vwi r0,vwi r1,.slw 1],.agg [.flt r2,.flt r3,.flt r4,.slw 2],vwi r5]) [⟨23,1,.flts r6⟩,⟨23,1,.flts r7⟩,⟨23,1,.flts r8⟩]):=by rw[eD 0 4 4 rfl];refine(ww N aln alV SQ4 SQ0 SQ1 alh ald alf s_0 s_1 s_2 s_3 h r z c_ _).trans ?_;simp only[wJ,wK,wL];kernel_rfl
theorem za (s_0:LF) (s_1 s_2:Int) (s_3 h:LF) (r z:Fl) (c_:KV):qg (u7 N aln alV SQ4 SQ0 SQ1 alh ald alf) (bw N aln alV SQ4 SQ0 SQ1 alh ald alf) 27 (hK.args [.fls s_0,.int s_1,.int s_2,.fls s_3,.fls h,.fl r,.fl z]) [] c_=gL N aln alV SQ4 SQ0 SQ1 alh ald alf s_0 s_1 s_2 s_3 h r z (λr0 r1 r2 r3 r4 r5=>c_ (.tup [.agg [.nil,vwi r0,vwi r1,.nil],.agg [.flt r2,.flt r3,.flt r4,.nil],vwi r5]) []) (λr0 r1 r2 r3 r4 r5 r6=>c_ (.tup [.agg [.nil,vwi r0,vwi r1,.nil],.agg [.flt r2,.flt r3,.flt r4,.slw 0],vwi r5]) [⟨23,1,.flts r6⟩]) (λr0 r1 r2 r3 r4 r5 r6 r7 r8=>c_ (.tup [.agg [.slw 0,vwi r0,vwi r1,.slw 1],.agg [.flt r2,.flt r3,.flt r4,.slw 2],vwi r5]) [⟨23,1,.flts r6⟩,⟨23,1,.flts r7⟩,⟨23,1,.flts r8⟩]):=
 (ln (by kernel_rfl)).trans (wO N aln alV SQ4 SQ0 SQ1 alh ald alf s_0 s_1 s_2 s_3 h r z c_)
theorem wr (aqI:ab Pg 48 (lM aln)) (asC:ab Pg 39 (FX alV)) (hQ4:ab Pg 49 (FQ4 SQ4)) (hQ0:ab Pg 50 (FQ0 SQ0)) (hQ1:ab Pg 49 (FQ1 SQ1)) (aoA:ab Pg 28 (eK alh)) (aoc:ab Pg 29 (dG ald)) (aoh:ab Pg 51 (dN alf)):ab Pg 27 (kL (gL N aln alV SQ4 SQ0 SQ1 alh ald alf)):=by
 refine av (cx:=(u7 N aln alV SQ4 SQ0 SQ1 alh ald alf)) (rH (aa aqI (aa asC (aa (qw hQ4 hQ1) (aa hQ0 (aa aoA (aa aoc (aa aoh (ac _)))))))) ⟨(kO (by kernel_rfl)),(kO (by kernel_rfl)),(eB (by kernel_rfl) (Vf (dz SQ4) (bV SQ1))),(eB (by kernel_rfl) (cS SQ0)),(kO (by kernel_rfl)),(kO (by kernel_rfl)),(kO (by kernel_rfl)),trivial⟩) hK (nh (gL N aln alV SQ4 SQ0 SQ1 alh ald alf)) (bw N aln alV SQ4 SQ0 SQ1 alh ald alf) 1 0 (by kernel_rfl) (bK (wE _ _ _ _ _ _ _ _ _)) ?_;intro a k h;unfold nh at h;split at h;exact⟨[],rfl,rfl,(za _ _ _ _ _ _ _ _ _ _ _ _ _ _ _ _ _).trans h⟩;cases h
end
def BG (N:Nat) (alU:fL):Nat->Option Ann:=λb_=>none
theorem ze (N:Nat) (alU:fL) (aqu:ab Pg 27 (kL alU)):ab Pg 12 (iR (mY N alU)):=by
 refine av (cx:=⟨Pg,ah [(27,(kL alU))],am,N⟩) (ai (aa aqu (ac _)) (by kernel_rfl)) sG (o4 (mY N alU)) (BG N alU) 0 0 (by kernel_rfl) (λi_ hi_=>by omega) ?_;intro a k h;unfold o4 at h;split at h;exact⟨[],rfl,rfl,.trans (by kernel_rfl) h⟩;cases h
def ahF (N:Nat) (alB:dI) (alx:eu):Nat->Option Ann:=λb_=>none
theorem acC (N:Nat) (alB:dI) (alx:eu) (aoq:ab Pg 12 (iR alB)) (aoD:ab Pg 20 (jH alx)):ab Pg 7 (Z5 (ae9 N alB alx)):=by
 refine av (cx:=⟨Pg,ah [(12,(iR alB)),(20,(jH alx))],am,N⟩) (ai (aa aoq (aa aoD (ac _))) (by kernel_rfl)) XE (YY (ae9 N alB alx)) (ahF N alB alx) 0 0 (by kernel_rfl) (λi_ hi_=>by omega) ?_;intro a k h;unfold YY at h;split at h;exact⟨[],rfl,rfl,.trans (by kernel_rfl) h⟩;cases h
def afF (N:Nat) (alY:mo):Nat->Option Ann:=λb_=>none
theorem VT (N:Nat) (alY:mo) (arh:ab Pg 19 (zO alY)):ab Pg 64 (OV (Ps N alY)):=by
 refine av (cx:=⟨Pg,ah [(19,(zO alY))],am,N⟩) (ai (aa arh (ac _)) (by kernel_rfl)) Q1 (N8 (Ps N alY)) (afF N alY) 0 0 (by kernel_rfl) (λi_ hi_=>by omega) ?_;intro a k h;unfold N8 at h;split at h;exact⟨[],rfl,rfl,.trans (by kernel_rfl) h⟩;cases h
def afx (N:Nat) (apI:Bx):Nat->Option Ann:=λb_=>none
theorem VC (N:Nat) (apI:Bx) (avc:ab Pg 64 (OV apI)):ab Pg 42 (OC (Ph N apI)):=by
 refine av (cx:=⟨Pg,ah [(64,(OV apI))],am,N⟩) (ai (aa avc (ac _)) (by kernel_rfl)) QL (NP (Ph N apI)) (afx N apI) 0 0 (by kernel_rfl) (λi_ hi_=>by omega) ?_;intro a k h;unfold NP at h;split at h;exact⟨[],rfl,rfl,.trans (by kernel_rfl) h⟩;cases h
def fJ:StSh:=⟨(.int .u64::.int .i64::sqs 15 []),[]⟩
def rR:StSh:=⟨(.int .u64::.int .i64::sqs 15 []),[]⟩
def fF (N:Nat):List Atom->K->Bool:=λa_ κ=>match a_ with
 | [.int m_1,.int e_1]=>al N (oq N (λr0 r1=>κ.ext 0 (rR.build [.int r0,.int r1]))) (m_1,e_1)
 | _=>false
def LR (N:Nat):Nat->Option Ann:=λb_=>cond (b_==0) (some ⟨⟨[0,1],[],[],[]⟩,[(0,⟨[0,1],[],[],[]⟩)],some ⟨[4,5],[],[],[]⟩,some (aF [(fJ,fF N)])⟩) (none)
theorem rn (N:Nat):aH ⟨Pg,ah [],am,N⟩ 0 (LR N) (lp Pg 43 0) (fJ,fF N):=by
 intro a κ h;simp only at h;unfold fF at h;split at h
 ·rename_i m_1 e_1;exact .trans (aJ (λ(v_:Int × Int)=>fJ.build [.int v_.1,.int v_.2]) (λv_ K_=>by obtain⟨m_1,e_1⟩:=v_; kernel_rfl) N (m_1,e_1)) h
 ·cases h
theorem uA (N:Nat):aT ⟨Pg,ah [],am,N⟩ 0 (LR N) (lp Pg 43 0):=
 aC [(fJ,fF N)] (by kernel_rfl) ⟨rn _,trivial⟩
theorem VL (N:Nat):ab Pg 43 (ON (I8 N)):=by
 refine av (cx:=⟨Pg,ah [],am,N⟩) (ai (ac _) (by kernel_rfl)) QT (N0 (I8 N)) (LR N) 1 0 (by kernel_rfl) (bK (uA _)) ?_;intro a k h;unfold N0 at h;split at h;exact⟨[],rfl,rfl,.trans (by kernel_rfl) h⟩;cases h
section
variable (N:Nat) (amV:yL) (amZ:yN)
noncomputable abbrev JZ:Cx:=⟨Pg,ah [(42,(OC amV)),(43,(ON amZ))],am,N⟩
def Ec (N:Nat) (amV:yL) (amZ:yN):Nat->Option Ann:=λb_=>none
def MT (d_:List V) (u_:List (Option Blk)) (x:Fl) (neg:Bool) (e f:Int):St:=⟨((dq d_ 0)::(dq d_ 1)::.ptr 0 0::(dq d_ 2)::.bool neg::vwi e::vwu f::dqs d_ 3 28 []),[some ⟨50,1,.cells [.bool false,vwu 0,vwi 0]⟩]⟩
theorem agu (d_:List V) (u_:List (Option Blk)) (x:Fl) (neg:Bool) (e f:Int) (c_:KV):bc (JZ N amV amZ) 0 (Ec N amV amZ) ((cds Pg 21).drop 6) 0 (MT d_ u_ x neg e f) (ou Pg 21 0 c_)=Je N amV amZ x neg e f (λr0 r1 r2 r3=>c_ (.tup [.agg [.bool r0,vwu r1,vwi r2],vwi r3]) []):=by kernel_rfl
theorem EN (x:Fl) (c_:KV) (κn_:St->Bool):bc (JZ N amV amZ) 0 (Ec N amV amZ) (sg Pg 21 0 6) 0 (st0 Pg 21 (AR.args [.fl x]) []) { (ou Pg 21 0 c_)with nrm:=κn_ } = (amV x (λcr nr aly=>cond (nr==2047) (c_ (.tup [.agg [.bool false,vwu 0,vwi 0],vwi 4]) []) (cond (decide (nr>0)) (au .i64 (nr - 1)&&κn_ (MT (.flt x::.any::vwi 0::.any::.any::.tup [.bool cr,vwi nr,vwu aly]::.flt x::.tup [.bool cr,vwi nr,vwu aly]::.bool cr::vwi nr::vwu aly::vwi nr::.bool false::.any::vwi nr::.bool true::vwu aly::vwu (IntKind.wrap .u64 (aly+4503599627370496))::vwi nr::vwi (nr - 1)::vqs 11 []) [] x cr (nr - 1) (IntKind.wrap .u64 (aly+4503599627370496)))) (κn_ (MT (.flt x::.any::vwi 0::.any::.any::.tup [.bool cr,vwi nr,vwu aly]::.flt x::.tup [.bool cr,vwi nr,vwu aly]::.bool cr::vwi nr::vwu aly::vwi nr::.bool false::.any::vwi nr::.bool false::vqs 15 []) [] x cr nr aly))))):=by kernel_rfl
theorem E0 (x:Fl) (c_:KV):bc (JZ N amV amZ) 0 (Ec N amV amZ) ((cds Pg 21).drop 0) 0 (st0 Pg 21 (AR.args [.fl x]) []) (ou Pg 21 0 c_)=Gu N amV amZ x (λr0 r1 r2 r3=>c_ (.tup [.agg [.bool r0,vwu r1,vwi r2],vwi r3]) []):=by rw[eD 0 6 6 rfl];refine(EN N amV amZ x c_ _).trans ?_;simp only[agu];kernel_rfl
theorem afT (x:Fl) (c_:KV):qg (JZ N amV amZ) (Ec N amV amZ) 21 (AR.args [.fl x]) [] c_=Gu N amV amZ x (λr0 r1 r2 r3=>c_ (.tup [.agg [.bool r0,vwu r1,vwi r2],vwi r3]) []):=
 (ln (by kernel_rfl)).trans (E0 N amV amZ x c_)
theorem VJ (auW:ab Pg 42 (OC amV)) (au6:ab Pg 43 (ON amZ)):ab Pg 21 (OK (Gu N amV amZ)):=by
 refine av (cx:=(JZ N amV amZ)) (ai (aa auW (aa au6 (ac _))) (by kernel_rfl)) AR (NX (Gu N amV amZ)) (Ec N amV amZ) 0 0 (by kernel_rfl) (λi_ hi_=>by omega) ?_;intro a k h;unfold NX at h;split at h;exact⟨[],rfl,rfl,(afT _ _ _ _ _).trans h⟩;cases h
def eS:StSh:=⟨(.sl 0::sqs 20 []),[some (107,1,.ints .u32)]⟩
def pZ:StSh:=⟨(.sl 0::sqs 20 []),[some (107,1,.ints .u32)]⟩
end
def eO (N:Nat):List Atom->K->Bool:=λa_ κ=>match a_ with
 | [.nat m_1,.nat m_2,.ints m_3]=>al N (zE N m_1 m_3 (λr1=>κ.ext 0 (pZ.build [.nat m_1,.nat r1,.ints m_3]))) m_2
 | _=>false
def T8 (N:Nat):Nat->Option Ann:=λb_=>cond (b_==0) (some ⟨⟨[0],[(0,some 0,0)],[],[]⟩,[(0,⟨[0],[],[],[]⟩)],some ⟨[2],[],[],[]⟩,some (aF [(eS,eO N)])⟩) (none)
theorem pS (N:Nat):aH ⟨Pg,ah [],am,N⟩ 1 (T8 N) (lp Pg 65 0) (eS,eO N):=by
 intro a κ h;simp only at h;unfold eO at h;split at h
 ·rename_i m_1 m_2 m_3;exact .trans (aJ (λv_=>eS.build [.nat m_1,.nat v_,.ints m_3]) (λv_ K_=>by kernel_rfl) N m_2) h
 ·cases h
theorem sS (N:Nat):aT ⟨Pg,ah [],am,N⟩ 1 (T8 N) (lp Pg 65 0):=
 aC [(eS,eO N)] (by kernel_rfl) ⟨pS _,trivial⟩
theorem ab4 (N:Nat):ab Pg 65 (xU (aaF N)):=by
 refine ao (md:=false) (cx:=⟨Pg,ah [],am,N⟩) (ai (ac _) (by kernel_rfl)) Xa (Yr (aaF N)) (T8 N) 1 1 (by kernel_rfl) (bK (sS _)) ?_;intro a k h;unfold Yr at h;split at h;exact⟨[_],rfl,rfl,.trans (by kernel_rfl) h⟩;cases h
def aie (N:Nat) (alN:ks):Nat->Option Ann:=λb_=>none
theorem ads (N:Nat) (alN:ks) (aqG:ab Pg 65 (xU alN)):ab Pg 45 (RG (abC N alN)):=by
 refine ao (md:=false) (cx:=⟨Pg,ah [(65,(xU alN))],am,N⟩) (ai (aa aqG (ac _)) (by kernel_rfl)) Yk (ZF (abC N alN)) (aie N alN) 0 0 (by kernel_rfl) (λi_ hi_=>by omega) ?_;intro a k h;unfold ZF at h;split at h;exact⟨[],rfl,rfl,.trans (by kernel_rfl) h⟩;cases h
def fI:StSh:=⟨(.roi .u32::sqs 20 []),[]⟩
def rQ:StSh:=⟨(.roi .u32::sqs 20 []),[]⟩
def fE (N:Nat):List Atom->K->Bool:=λa_ κ=>match a_ with
 | [.ints m_1]=>al N (kp N (λr0=>κ.ext 0 (rQ.build [.ints r0]))) m_1
 | _=>false
def LX (N:Nat):Nat->Option Ann:=λb_=>cond (b_==0) (some ⟨⟨[0],[],[],[]⟩,[(0,⟨[0],[],[],[]⟩)],some ⟨[2],[],[],[]⟩,some (aF [(fI,fE N)])⟩) (none)
theorem rm (N:Nat):aH ⟨Pg,ah [],am,N⟩ 0 (LX N) (lp Pg 65 0) (fI,fE N):=by
 intro a κ h;simp only at h;unfold fE at h;split at h
 ·rename_i m_1;exact .trans (aJ (λv_=>fI.build [.ints v_]) (λv_ K_=>by kernel_rfl) N m_1) h
 ·cases h
theorem uz (N:Nat):aT ⟨Pg,ah [],am,N⟩ 0 (LX N) (lp Pg 65 0):=
 aC [(fI,fE N)] (by kernel_rfl) ⟨rm _,trivial⟩
theorem VX (N:Nat):ab Pg 65 (OZ (Pv N)):=by
 refine ao (md:=false) (cx:=⟨Pg,ah [],am,N⟩) (ai (ac _) (by kernel_rfl)) Q4 (Ob (Pv N)) (LX N) 1 0 (by kernel_rfl) (bK (uz _)) ?_;intro a k h;unfold Ob at h;split at h;exact⟨[],rfl,rfl,.trans (by kernel_rfl) h⟩;cases h
def ahH (N:Nat) (apK:BA):Nat->Option Ann:=λb_=>none
theorem acE (N:Nat) (apK:BA) (ave:ab Pg 65 (OZ apK)):ab Pg 44 (C2 (aa6 N apK)):=by
 refine ao (md:=false) (cx:=⟨Pg,ah [(65,(OZ apK))],am,N⟩) (ai (aa ave (ac _)) (by kernel_rfl)) XG (Y0 (aa6 N apK)) (ahH N apK) 0 1 (by kernel_rfl) (λi_ hi_=>by omega) ?_;intro a k h;unfold Y0 at h;split at h;exact⟨[_],rfl,rfl,.trans (by kernel_rfl) h⟩;cases h
def ah1 (N:Nat) (ann:yv) (amb:nA):Nat->Option Ann:=λb_=>none
theorem adb (N:Nat) (ann:yv) (amb:nA) (auj:ab Pg 45 (RG ann)) (ar3:ab Pg 44 (C2 amb)):ab Pg 22 (aaq (abq N ann amb)):=by
 refine ao (md:=false) (cx:=⟨Pg,ah [(45,(RG ann)),(44,(C2 amb))],am,N⟩) (ai (aa auj (aa ar3 (ac _))) (by kernel_rfl)) X7 (Zq (abq N ann amb)) (ah1 N ann amb) 0 1 (by kernel_rfl) (λi_ hi_=>by omega) ?_;intro a k h;unfold Zq at h;split at h;exact⟨[_],rfl,rfl,.trans (by kernel_rfl) h⟩;cases h
def afv (N:Nat) (alN:ks):Nat->Option Ann:=λb_=>none
theorem Vz (N:Nat) (alN:ks) (aqG:ab Pg 65 (xU alN)):ab Pg 44 (Oz (Pd N alN)):=by
 refine ao (md:=false) (cx:=⟨Pg,ah [(65,(xU alN))],am,N⟩) (ai (aa aqG (ac _)) (by kernel_rfl)) QI (NM (Pd N alN)) (afv N alN) 0 2 (by kernel_rfl) (λi_ hi_=>by omega) ?_;intro a k h;unfold NM at h;split at h;exact⟨[_,_],rfl,rfl,.trans (by kernel_rfl) h⟩;cases h
def afs (N:Nat) (apz:Be):Nat->Option Ann:=λb_=>none
theorem Vw (N:Nat) (apz:Be) (auT:ab Pg 44 (Oz apz)):ab Pg 23 (Ow (Pa N apz)):=by
 refine ao (md:=false) (cx:=⟨Pg,ah [(44,(Oz apz))],am,N⟩) (ai (aa auT (ac _)) (by kernel_rfl)) QF (NJ (Pa N apz)) (afs N apz) 0 1 (by kernel_rfl) (λi_ hi_=>by omega) ?_;intro a k h;unfold NJ at h;split at h;exact⟨[_],rfl,rfl,.trans (by kernel_rfl) h⟩;cases h
def afJ (N:Nat) (apE:Bo) (aq1:GM) (apw:Ba):Nat->Option Ann:=λb_=>none
theorem V0 (N:Nat) (apE:Bo) (aq1:GM) (apw:Ba) (au3:ab Pg 21 (OK apE)) (awf:ab Pg 22 (aaq aq1)) (auQ:ab Pg 23 (Ow apw)):ab Pg 8 (O2 (Py N apE aq1 apw)):=by
 refine av (cx:=⟨Pg,ah [(21,(OK apE)),(22,(aaq aq1)),(23,(Ow apw))],am,N⟩) (ai (aa au3 (aa awf (aa auQ (ac _)))) (by kernel_rfl)) Q7 (Oe (Py N apE aq1 apw)) (afJ N apE aq1 apw) 0 0 (by kernel_rfl) (λi_ hi_=>by omega) ?_;intro a k h;unfold Oe at h;split at h;exact⟨[],rfl,rfl,.trans (by kernel_rfl) h⟩;cases h
def eX:StSh:=⟨(.roi .u32::.roi .u32::.any::.any::.any::.slw 0::.int .i64::.int .u64::.int .i64::sqs 59 []),[some (107,1,.ints .u32)]⟩
def p8:StSh:=⟨(.roi .u32::.roi .u32::.any::.any::.any::.slw 0::.int .i64::.int .u64::sqs 60 []),[some (107,1,.ints .u32)]⟩
section
variable (N:Nat) (alN:ks)
noncomputable abbrev J0:Cx:=⟨Pg,ah [(65,(xU alN))],am,N⟩
def eR:List Atom->K->Bool:=λa_ κ=>match a_ with
 | [.ints a_2,.ints b_2,.int i_1,.int carry,.int k_,.ints amv]=>al N (om N alN a_2 b_2 i_1 (λr3 r4=>κ.ext 2 (p8.build [.ints a_2,.ints b_2,.int i_1,.int r3,.ints r4]))) (carry,k_,amv)
 | _=>false
def eW:StSh:=⟨(.roi .u32::.roi .u32::.any::.any::.any::.slw 0::.int .i64::sqs 61 []),[some (107,1,.ints .u32)]⟩
def p7:StSh:=⟨(sqs 5 (.slw 0::sqs 62 [])),[some (107,1,.ints .u32)]⟩
def eQ:List Atom->K->Bool:=λa_ κ=>match a_ with
 | [.ints a_1,.ints b_1,.int i,.ints out]=>al N (ol N alN a_1 b_1 (λr0=>κ.ext 0 (p7.build [.ints r0]))) (i,out)
 | _=>false
def Eb:Nat->Option Ann:=λb_=>cond (b_==2) (some ⟨⟨[0,1,5,6,7,8],[],[],[]⟩,[(2,⟨[0,1,5,6,7],[],[],[]⟩)],some ⟨[4],[],[],[]⟩,some (aF [(eX,eR N alN)])⟩) (cond (b_==0) (some ⟨⟨[0,1,5,6],[],[],[]⟩,[(0,⟨[5],[],[],[]⟩)],some ⟨[4],[],[],[]⟩,some (aF [(eW,eQ N alN)])⟩) (none))
theorem pV:aH (J0 N alN) 0 (Eb N alN) (lp Pg 46 1) (eX,eR N alN):=by
 intro a κ h;simp only at h;unfold eR at h;split at h
 ·rename_i a_2 b_2 i_1 carry k_ amv;exact .trans (aJ (λ(v_:Int × Int × LI)=>eX.build [.ints a_2,.ints b_2,.int i_1,.int v_.1,.int v_.2.1,.ints v_.2.2]) (λv_ K_=>by obtain⟨carry,k_,amv⟩:=v_; kernel_rfl) N (carry,k_,amv)) h
 ·cases h
theorem pU:aH (J0 N alN) 0 (Eb N alN) (lp Pg 46 0) (eW,eQ N alN):=by
 intro a κ h;simp only at h;unfold eQ at h;split at h
 ·rename_i a_1 b_1 i out;exact .trans (aJ (λ(v_:Int × LI)=>eW.build [.ints a_1,.ints b_1,.int v_.1,.ints v_.2]) (λv_ K_=>by obtain⟨i,out⟩:=v_; kernel_rfl) N (i,out)) h
 ·cases h
theorem sV:aT (J0 N alN) 0 (Eb N alN) (lp Pg 46 1):=
 aC [(eX,eR N alN)] (by kernel_rfl) ⟨pV _ _,trivial⟩
theorem sU:aT (J0 N alN) 0 (Eb N alN) (lp Pg 46 0):=
 aC [(eW,eQ N alN)] (by kernel_rfl) ⟨pU _ _,trivial⟩
theorem VI (aqG:ab Pg 65 (xU alN)):ab Pg 46 (OI (Pm N alN)):=by
 refine ao (md:=false) (cx:=(J0 N alN)) (ai (aa aqG (ac _)) (by kernel_rfl)) QR (NV (Pm N alN)) (Eb N alN) 2 0 (by kernel_rfl) (jV (sU _ _) (sV _ _)) ?_;intro a k h;unfold NV at h;split at h;exact⟨[],rfl,rfl,.trans (by kernel_rfl) h⟩;cases h
end
def ah3 (N:Nat) (apD:Bm) (amb:nA):Nat->Option Ann:=λb_=>none
theorem ade (N:Nat) (apD:Bm) (amb:nA) (au1:ab Pg 46 (OI apD)) (ar3:ab Pg 44 (C2 amb)):ab Pg 24 (aas (abt N apD amb)):=by
 refine ao (md:=false) (cx:=⟨Pg,ah [(46,(OI apD)),(44,(C2 amb))],am,N⟩) (ai (aa au1 (aa ar3 (ac _))) (by kernel_rfl)) X9 (Zs (abt N apD amb)) (ah3 N apD amb) 0 3 (by kernel_rfl) (λi_ hi_=>by omega) ?_;intro a k h;unfold Zs at h;split at h;exact⟨[_,_,_],rfl,rfl,.trans (by kernel_rfl) h⟩;cases h
def ahp (N:Nat) (aq3:GO):Nat->Option Ann:=λb_=>none
theorem ace (N:Nat) (aq3:GO) (awh:ab Pg 24 (aas aq3)):ab Pg 9 (ZU (aaO N aq3)):=by
 refine av (cx:=⟨Pg,ah [(24,(aas aq3))],am,N⟩) (ai (aa awh (ac _)) (by kernel_rfl)) Xj (YC (aaO N aq3)) (ahp N aq3) 0 2 (by kernel_rfl) (λi_ hi_=>by omega) ?_;intro a k h;unfold YC at h;split at h;exact⟨[_,_],rfl,rfl,.trans (by kernel_rfl) h⟩;cases h
section
variable (N:Nat) (ann:yv) (amb:nA)
noncomputable abbrev J1:Cx:=⟨Pg,ah [(45,(RG ann)),(44,(C2 amb))],am,N⟩
def Js (N:Nat) (ann:yv) (amb:nA):Nat->Option Ann:=λb_=>none
def MS (d_:List V) (u_:List (Option Blk)) (n:Int) (b:Bool) (u:Int):St:=⟨(.ptr 0 0::vwi n::dqs d_ 0 3 (vwu u::dqs d_ 3 12 [])),[some ⟨55,1,.cells [.bool b,.nil]⟩]⟩
theorem agt (d_:List V) (u_:List (Option Blk)) (n:Int) (b:Bool) (u:Int) (c_:KV):bc (J1 N ann amb) 1 (Js N ann amb) ((cds Pg 47).drop 4) 0 (MS d_ u_ n b u) (r_ false Pg 47 1 c_)=PA N ann amb n b u (λr0 r1=>c_ (.ptr 0 0) [⟨55,1,.cells [.bool r0,vws r1]⟩]):=by kernel_rfl
theorem wx (n:Int) (b:Bool) (c_:KV) (κn_:St->Bool):bc (J1 N ann amb) 1 (Js N ann amb) (sg Pg 47 0 4) 0 (st0 Pg 47 (FA.args [.int n,.bool b]) [⟨55,1,.cells [.bool b,.nil]⟩]) { (r_ false Pg 47 1 c_)with nrm:=κn_ } = (cond (decide (n<0)) (κn_ (MS (.any::.any::.val (.pointer none)::vwi n::vwu (IntKind.wrap .u64 n)::vwi n::.bool true::vwu (IntKind.wrap .u64 n)::vwu (IntKind.wrap .u64 (0 - (IntKind.wrap .u64 n)))::vqs 6 []) [] n b (IntKind.wrap .u64 (0 - (IntKind.wrap .u64 n))))) (κn_ (MS (.any::.any::.val (.pointer none)::vwi n::vwu (IntKind.wrap .u64 n)::vwi n::.bool false::vqs 8 []) [] n b (IntKind.wrap .u64 n)))):=by kernel_rfl
theorem wQ (n:Int) (b:Bool) (c_:KV):bc (J1 N ann amb) 1 (Js N ann amb) ((cds Pg 47).drop 0) 0 (st0 Pg 47 (FA.args [.int n,.bool b]) [⟨55,1,.cells [.bool b,.nil]⟩]) (r_ false Pg 47 1 c_)=RM N ann amb n b (λr0 r1=>c_ (.ptr 0 0) [⟨55,1,.cells [.bool r0,vws r1]⟩]):=by rw[eD 0 4 4 rfl];refine(wx N ann amb n b c_ _).trans ?_;simp only[agt];kernel_rfl
theorem aix (n:Int) (b:Bool) (c_:KV):vW false (J1 N ann amb) (Js N ann amb) 47 (FA.args [.int n,.bool b]) [⟨55,1,.cells [.bool b,.nil]⟩] c_=RM N ann amb n b (λr0 r1=>c_ (.ptr 0 0) [⟨55,1,.cells [.bool r0,vws r1]⟩]):=
 (nl (by kernel_rfl)).trans (wQ N ann amb n b c_)
theorem adg (auj:ab Pg 45 (RG ann)) (ar3:ab Pg 44 (C2 amb)):ab Pg 47 (aau (RM N ann amb)):=by
 refine ao (md:=false) (cx:=(J1 N ann amb)) (ai (aa auj (aa ar3 (ac _))) (by kernel_rfl)) FA (Zu (RM N ann amb)) (Js N ann amb) 0 1 (by kernel_rfl) (λi_ hi_=>by omega) ?_;intro a k h;unfold Zu at h;split at h;exact⟨[_],rfl,rfl,(aix _ _ _ _ _ _).trans h⟩;cases h
end
def afz (N:Nat) (aq5:GQ):Nat->Option Ann:=λb_=>none
theorem VF (N:Nat) (aq5:GQ) (awj:ab Pg 47 (aau aq5)):ab Pg 26 (OE (Pj N aq5)):=by
 refine ao (md:=false) (cx:=⟨Pg,ah [(47,(aau aq5))],am,N⟩) (ai (aa awj (ac _)) (by kernel_rfl)) QO (NS (Pj N aq5)) (afz N aq5) 0 0 (by kernel_rfl) (λi_ hi_=>by omega) ?_;intro a k h;unfold NS at h;split at h;exact⟨[],rfl,rfl,.trans (by kernel_rfl) h⟩;cases h
def afy (N:Nat) (apB:Bj):Nat->Option Ann:=λb_=>none
theorem VD (N:Nat) (apB:Bj) (auY:ab Pg 26 (OE apB)):ab Pg 11 (OD (TN N apB)):=by
 refine av (cx:=⟨Pg,ah [(26,(OE apB))],am,N⟩) (ai (aa auY (ac _)) (by kernel_rfl)) QM (NQ (TN N apB)) (afy N apB) 0 0 (by kernel_rfl) (λi_ hi_=>by omega) ?_;intro a k h;unfold NQ at h;split at h;exact⟨[],rfl,rfl,.trans (by kernel_rfl) h⟩;cases h
def ah9 (N:Nat) (alN:ks):Nat->Option Ann:=λb_=>none
theorem adm (N:Nat) (alN:ks) (aqG:ab Pg 65 (xU alN)):ab Pg 44 (RD (TW N alN)):=by
 refine ao (md:=false) (cx:=⟨Pg,ah [(65,(xU alN))],am,N⟩) (ai (aa aqG (ac _)) (by kernel_rfl)) Ye (Zz (TW N alN)) (ah9 N alN) 0 2 (by kernel_rfl) (λi_ hi_=>by omega) ?_;intro a k h;unfold Zz at h;split at h;exact⟨[_,_],rfl,rfl,.trans (by kernel_rfl) h⟩;cases h
def afq (N:Nat) (aoR:zZ):Nat->Option Ann:=λb_=>none
theorem Vu (N:Nat) (aoR:zZ) (aug:ab Pg 44 (RD aoR)):ab Pg 23 (Ou (O9 N aoR)):=by
 refine ao (md:=false) (cx:=⟨Pg,ah [(44,(RD aoR))],am,N⟩) (ai (aa aug (ac _)) (by kernel_rfl)) QD (NH (O9 N aoR)) (afq N aoR) 0 2 (by kernel_rfl) (λi_ hi_=>by omega) ?_;intro a k h;unfold NH at h;split at h;exact⟨[_,_],rfl,rfl,.trans (by kernel_rfl) h⟩;cases h
def ahs (N:Nat) (apv:A_):Nat->Option Ann:=λb_=>none
theorem aci (N:Nat) (apv:A_) (auO:ab Pg 23 (Ou apv)):ab Pg 14 (Ru (TR N apv)):=by
 refine av (cx:=⟨Pg,ah [(23,(Ou apv))],am,N⟩) (ai (aa auO (ac _)) (by kernel_rfl)) Xl (YG (TR N apv)) (ahs N apv) 0 1 (by kernel_rfl) (λi_ hi_=>by omega) ?_;intro a k h;unfold YG at h;split at h;exact⟨[_],rfl,rfl,.trans (by kernel_rfl) h⟩;cases h
def ah_ (N:Nat):Nat->Option Ann:=λb_=>none
theorem adn (N:Nat):ab Pg 25 (RE (abz N)):=by
 refine ao (md:=false) (cx:=⟨Pg,ah [],am,N⟩) (ai (ac _) (by kernel_rfl)) Yf (ZA (abz N)) (ah_ N) 0 1 (by kernel_rfl) (λi_ hi_=>by omega) ?_;intro a k h;unfold ZA at h;split at h;exact⟨[_],rfl,rfl,.trans (by kernel_rfl) h⟩;cases h
def fi:StSh:=⟨(.roi .u32::sqs 4 (.int .i64::.int .u64::.slw 0::.int .i64::sqs 49 [])),[some (107,1,.ints .u32)]⟩
def qM:StSh:=⟨(sqs 7 (.slw 0::sqs 50 [])),[some (107,1,.ints .u32)]⟩
section
variable (N:Nat) (alN:ks)
noncomputable abbrev UR:Cx:=⟨Pg,ah [(65,(xU alN))],am,N⟩
def fe:List Atom->K->Bool:=λa_ κ=>match a_ with
 | [.ints m_1,.int w,.int s,.int i,.ints out]=>al N (IW N alN m_1 w s (λr0=>κ.ext 0 (qM.build [.ints r0]))) (i,out)
 | _=>false
def LV:Nat->Option Ann:=λb_=>cond (b_==0) (some ⟨⟨[0,5,6,7,8],[],[],[]⟩,[(0,⟨[7],[],[],[]⟩)],some ⟨[4],[],[],[]⟩,some (aF [(fi,fe N alN)])⟩) (none)
theorem qD:aH (UR N alN) 0 (LV N alN) (lp Pg 72 0) (fi,fe N alN):=by
 intro a κ h;simp only at h;unfold fe at h;split at h
 ·rename_i m_1 w s i out;exact .trans (aJ (λ(v_:Int × LI)=>fi.build [.ints m_1,.int w,.int s,.int v_.1,.ints v_.2]) (λv_ K_=>by obtain⟨i,out⟩:=v_; kernel_rfl) N (i,out)) h
 ·cases h
theorem tH:aT (UR N alN) 0 (LV N alN) (lp Pg 72 0):=
 aC [(fi,fe N alN)] (by kernel_rfl) ⟨qD _ _,trivial⟩
theorem VQ (aqG:ab Pg 65 (xU alN)):ab Pg 72 (OR (Pq N alN)):=by
 refine ao (md:=false) (cx:=(UR N alN)) (ai (aa aqG (ac _)) (by kernel_rfl)) QY (N5 (Pq N alN)) (LV N alN) 1 0 (by kernel_rfl) (bK (tH _ _)) ?_;intro a k h;unfold N5 at h;split at h;exact⟨[],rfl,rfl,.trans (by kernel_rfl) h⟩;cases h
end
def afp (N:Nat) (apG:Bu) (amb:nA):Nat->Option Ann:=λb_=>none
theorem Vt (N:Nat) (apG:Bu) (amb:nA) (au_:ab Pg 72 (OR apG)) (ar3:ab Pg 44 (C2 amb)):ab Pg 58 (Ot (O8 N apG amb)):=by
 refine ao (md:=false) (cx:=⟨Pg,ah [(72,(OR apG)),(44,(C2 amb))],am,N⟩) (ai (aa au_ (aa ar3 (ac _))) (by kernel_rfl)) QC (NG (O8 N apG amb)) (afp N apG amb) 0 2 (by kernel_rfl) (λi_ hi_=>by omega) ?_;intro a k h;unfold NG at h;split at h;exact⟨[_,_],rfl,rfl,.trans (by kernel_rfl) h⟩;cases h
def ahP (N:Nat) (apu:A9):Nat->Option Ann:=λb_=>none
theorem acT (N:Nat) (apu:A9) (auN:ab Pg 58 (Ot apu)):ab Pg 31 (aac (abe N apu)):=by
 refine av (cx:=⟨Pg,ah [(58,(Ot apu))],am,N⟩) (ai (aa auN (ac _)) (by kernel_rfl)) XR (Y_ (abe N apu)) (ahP N apu) 0 1 (by kernel_rfl) (λi_ hi_=>by omega) ?_;intro a k h;unfold Y_ at h;split at h;exact⟨[_],rfl,rfl,.trans (by kernel_rfl) h⟩;cases h
def fj:StSh:=⟨(.roi .u32::.roi .u32::sqs 4 (.slw 0::.int .u64::.int .i64::sqs 52 [])),[some (107,1,.ints .u32)]⟩
def qN:StSh:=⟨(.roi .u32::sqs 5 (.slw 0::.int .u64::sqs 53 [])),[some (107,1,.ints .u32)]⟩
section
variable (N:Nat) (alN:ks)
noncomputable abbrev US:Cx:=⟨Pg,ah [(65,(xU alN))],am,N⟩
def fh:List Atom->K->Bool:=λa_ κ=>match a_ with
 | [.ints a_1,.ints b_1,.int carry,.int i,.ints out]=>al N (kF N alN a_1 b_1 (λr1 r2=>κ.ext 0 (qN.build [.ints a_1,.int r1,.ints r2]))) (carry,i,out)
 | _=>false
def LW:Nat->Option Ann:=λb_=>cond (b_==0) (some ⟨⟨[0,1,6,7,8],[],[],[]⟩,[(0,⟨[0,6,7],[],[],[]⟩)],some ⟨[4],[],[],[]⟩,some (aF [(fj,fh N alN)])⟩) (none)
theorem qE:aH (US N alN) 0 (LW N alN) (lp Pg 69 0) (fj,fh N alN):=by
 intro a κ h;simp only at h;unfold fh at h;split at h
 ·rename_i a_1 b_1 carry i out;exact .trans (aJ (λ(v_:Int × Int × LI)=>fj.build [.ints a_1,.ints b_1,.int v_.1,.int v_.2.1,.ints v_.2.2]) (λv_ K_=>by obtain⟨carry,i,out⟩:=v_; kernel_rfl) N (carry,i,out)) h
 ·cases h
theorem tI:aT (US N alN) 0 (LW N alN) (lp Pg 69 0):=
 aC [(fj,fh N alN)] (by kernel_rfl) ⟨qE _ _,trivial⟩
theorem VR (aqG:ab Pg 65 (xU alN)):ab Pg 69 (OT (Pr N alN)):=by
 refine ao (md:=false) (cx:=(US N alN)) (ai (aa aqG (ac _)) (by kernel_rfl)) QZ (N6 (Pr N alN)) (LW N alN) 1 0 (by kernel_rfl) (bK (tI _ _)) ?_;intro a k h;unfold N6 at h;split at h;exact⟨[],rfl,rfl,.trans (by kernel_rfl) h⟩;cases h
def dU:StSh:=⟨(.roi .u32::.roi .u32::.any::.any::.any::.int .i64::sqs 35 []),[]⟩
def o7:StSh:=⟨(sqs 4 (.int .i64::sqs 36 [])),[]⟩
def o8:StSh:=⟨(sqs 41 []),[]⟩
end
def dR (N:Nat):List Atom->K->Bool:=λa_ κ=>match a_ with
 | [.ints a_1,.ints b_1,.int i]=>al N (zB N a_1 b_1 (λr0=>κ.ret (o7.build [.int r0])) (κ.ext 0 (o8.build []))) i
 | _=>false
def LO (N:Nat):Nat->Option Ann:=λb_=>cond (b_==0) (some ⟨⟨[0,1,5],[],[],[]⟩,[(0,⟨[],[],[],[]⟩)],some ⟨[4],[],[],[]⟩,some (aF [(dU,dR N)])⟩) (none)
theorem oT (N:Nat):aH ⟨Pg,ah [],am,N⟩ 0 (LO N) (lp Pg 70 0) (dU,dR N):=by
 intro a κ h;simp only at h;unfold dR at h;split at h
 ·rename_i a_1 b_1 i;exact .trans (aJ (λv_=>dU.build [.ints a_1,.ints b_1,.int v_]) (λv_ K_=>by kernel_rfl) N i) h
 ·cases h
theorem rt (N:Nat):aT ⟨Pg,ah [],am,N⟩ 0 (LO N) (lp Pg 70 0):=
 aC [(dU,dR N)] (by kernel_rfl) ⟨oT _,trivial⟩
theorem VB (N:Nat):ab Pg 70 (OB (Pf N)):=by
 refine ao (md:=false) (cx:=⟨Pg,ah [],am,N⟩) (ai (ac _) (by kernel_rfl)) QK (NO (Pf N)) (LO N) 1 0 (by kernel_rfl) (bK (rt _)) ?_;intro a k h;unfold NO at h;split at h;exact⟨[],rfl,rfl,.trans (by kernel_rfl) h⟩;cases h
def eV:StSh:=⟨(.roi .u32::.roi .u32::.any::.any::.any::.slw 0::.int .u64::.int .i64::sqs 48 []),[some (107,1,.ints .u32)]⟩
def p6:StSh:=⟨(sqs 5 (.slw 0::sqs 50 [])),[some (107,1,.ints .u32)]⟩
section
variable (N:Nat) (alN:ks)
noncomputable abbrev UT:Cx:=⟨Pg,ah [(65,(xU alN))],am,N⟩
def eP:List Atom->K->Bool:=λa_ κ=>match a_ with
 | [.ints a_1,.ints b_1,.int borrow,.int i,.ints out]=>al N (oj N alN a_1 b_1 (λr0=>κ.ext 0 (p6.build [.ints r0]))) (borrow,i,out)
 | _=>false
def LQ:Nat->Option Ann:=λb_=>cond (b_==0) (some ⟨⟨[0,1,5,6,7],[],[],[]⟩,[(0,⟨[5],[],[],[]⟩)],some ⟨[4],[],[],[]⟩,some (aF [(eV,eP N alN)])⟩) (none)
theorem pT:aH (UT N alN) 0 (LQ N alN) (lp Pg 71 0) (eV,eP N alN):=by
 intro a κ h;simp only at h;unfold eP at h;split at h
 ·rename_i a_1 b_1 borrow i out;exact .trans (aJ (λ(v_:Int × Int × LI)=>eV.build [.ints a_1,.ints b_1,.int v_.1,.int v_.2.1,.ints v_.2.2]) (λv_ K_=>by obtain⟨borrow,i,out⟩:=v_; kernel_rfl) N (borrow,i,out)) h
 ·cases h
theorem sT:aT (UT N alN) 0 (LQ N alN) (lp Pg 71 0):=
 aC [(eV,eP N alN)] (by kernel_rfl) ⟨pT _ _,trivial⟩
theorem VK (aqG:ab Pg 65 (xU alN)):ab Pg 71 (OL (Pn N alN)):=by
 refine ao (md:=false) (cx:=(UT N alN)) (ai (aa aqG (ac _)) (by kernel_rfl)) QS (NY (Pn N alN)) (LQ N alN) 1 0 (by kernel_rfl) (bK (sT _ _)) ?_;intro a k h;unfold NY at h;split at h;exact⟨[],rfl,rfl,.trans (by kernel_rfl) h⟩;cases h
end
def ah4 (N:Nat) (apH:Bv) (amb:nA) (apA:Bh) (aoZ:Bp):Nat->Option Ann:=λb_=>none
theorem adf (N:Nat) (apH:Bv) (amb:nA) (apA:Bh) (aoZ:Bp) (ava:ab Pg 69 (OT apH)) (ar3:ab Pg 44 (C2 amb)) (auV:ab Pg 70 (OB apA)) (au4:ab Pg 71 (OL aoZ)):ab Pg 57 (aat (abu N apH amb apA aoZ)):=by
 refine ao (md:=false) (cx:=⟨Pg,ah [(69,(OT apH)),(44,(C2 amb)),(70,(OB apA)),(71,(OL aoZ))],am,N⟩) (ai (aa ava (aa ar3 (aa auV (aa au4 (ac _))))) (by kernel_rfl)) X_ (Zt (abu N apH amb apA aoZ)) (ah4 N apH amb apA aoZ) 0 3 (by kernel_rfl) (λi_ hi_=>by omega) ?_;intro a k h;unfold Zt at h;split at h;exact⟨[_,_,_],rfl,rfl,.trans (by kernel_rfl) h⟩;cases h
def ahY (N:Nat) (aq4:GP):Nat->Option Ann:=λb_=>none
theorem ac7 (N:Nat) (aq4:GP) (awi:ab Pg 57 (aat aq4)):ab Pg 30 (aan (abo N aq4)):=by
 refine ao (md:=false) (cx:=⟨Pg,ah [(57,(aat aq4))],am,N⟩) (ai (aa awi (ac _)) (by kernel_rfl)) X3 (Zl (abo N aq4)) (ahY N aq4) 0 3 (by kernel_rfl) (λi_ hi_=>by omega) ?_;intro a k h;unfold Zl at h;split at h;exact⟨[_,_,_],rfl,rfl,.trans (by kernel_rfl) h⟩;cases h
def ahj (N:Nat) (aoy:z6) (aqi:GB) (ap8:GK):Nat->Option Ann:=λb_=>none
theorem ab7 (N:Nat) (aoy:z6) (aqi:GB) (ap8:GK) (auh:ab Pg 25 (RE aoy)) (avZ:ab Pg 31 (aac aqi)) (awc:ab Pg 30 (aan ap8)):ab Pg 13 (Rs (aaH N aoy aqi ap8)):=by
 refine av (cx:=⟨Pg,ah [(25,(RE aoy)),(31,(aac aqi)),(30,(aan ap8))],am,N⟩) (ai (aa auh (aa avZ (aa awc (ac _)))) (by kernel_rfl)) Xc (Yw (aaH N aoy aqi ap8)) (ahj N aoy aqi ap8) 0 2 (by kernel_rfl) (λi_ hi_=>by omega) ?_;intro a k h;unfold Yw at h;split at h;exact⟨[_,_],rfl,rfl,.trans (by kernel_rfl) h⟩;cases h
def ahv (N:Nat) (aob:zT) (aoa:zR) (aoy:z6):Nat->Option Ann:=λb_=>none
theorem acl (N:Nat) (aob:zT) (aoa:zR) (aoy:z6) (at5:ab Pg 14 (Ru aob)) (at3:ab Pg 13 (Rs aoa)) (auh:ab Pg 25 (RE aoy)):ab Pg 10 (ZY (aaT N aob aoa aoy)):=by
 refine av (cx:=⟨Pg,ah [(14,(Ru aob)),(13,(Rs aoa)),(25,(RE aoy))],am,N⟩) (ai (aa at5 (aa at3 (aa auh (ac _)))) (by kernel_rfl)) Xo (YJ (aaT N aob aoa aoy)) (ahv N aob aoa aoy) 0 2 (by kernel_rfl) (λi_ hi_=>by omega) ?_;intro a k h;unfold YJ at h;split at h;exact⟨[_,_],rfl,rfl,.trans (by kernel_rfl) h⟩;cases h
def afo (N:Nat) (aoR:zZ):Nat->Option Ann:=λb_=>none
theorem Vs (N:Nat) (aoR:zZ) (aug:ab Pg 44 (RD aoR)):ab Pg 32 (Oq (O7 N aoR)):=by
 refine ao (md:=false) (cx:=⟨Pg,ah [(44,(RD aoR))],am,N⟩) (ai (aa aug (ac _)) (by kernel_rfl)) QB (NF (O7 N aoR)) (afo N aoR) 0 2 (by kernel_rfl) (λi_ hi_=>by omega) ?_;intro a k h;unfold NF at h;split at h;exact⟨[_,_],rfl,rfl,.trans (by kernel_rfl) h⟩;cases h
def ahE (N:Nat) (apt:A8):Nat->Option Ann:=λb_=>none
theorem acB (N:Nat) (apt:A8) (auM:ab Pg 32 (Oq apt)):ab Pg 15 (Z4 (aa4 N apt)):=by
 refine av (cx:=⟨Pg,ah [(32,(Oq apt))],am,N⟩) (ai (aa auM (ac _)) (by kernel_rfl)) XD (YX (aa4 N apt)) (ahE N apt) 0 1 (by kernel_rfl) (λi_ hi_=>by omega) ?_;intro a k h;unfold YX at h;split at h;exact⟨[_],rfl,rfl,.trans (by kernel_rfl) h⟩;cases h
section
variable (N:Nat) (ao0:GH) (an2:Bw) (alW:ku) (aow:Gz) (anI:BD) (anK:Gw) (ank:Bi) (aol:Gx) (alB:dI) (aoa:zR) (aob:zT) (aov:Gy)
noncomputable abbrev aeM:Cx:=⟨Pg,ah [(4,(aak ao0)),(5,(OU an2)),(6,(sm alW)),(7,(Z5 aow)),(8,(O2 anI)),(9,(ZU anK)),(11,(OD ank)),(10,(ZY aol)),(12,(iR alB)),(13,(Rs aoa)),(14,(Ru aob)),(15,(Z4 aov))],am,N⟩
def aeJ (N:Nat) (ao0:GH) (an2:Bw) (alW:ku) (aow:Gz) (anI:BD) (anK:Gw) (ank:Bi) (aol:Gx) (alB:dI) (aoa:zR) (aob:zT) (aov:Gy):Nat->Option Ann:=λb_=>none
theorem ait (p h r z:Int) (c_:KV):qg (aeM N ao0 an2 alW aow anI anK ank aol alB aoa aob aov) (aeJ N ao0 an2 alW aow anI anK ank aol alB aoa aob aov) 3 (IH.args [.int p,.int h,.int r,.int z]) [] c_=abg N ao0 an2 alW aow anI anK ank aol alB aoa aob aov p h r z (λr0=>c_ (.bool r0) []):=by kernel_rfl
theorem ag3 (av_:ab Pg 4 (aak ao0)) (avb:ab Pg 5 (OU an2)) (aqv:ab Pg 6 (sm alW)) (avN:ab Pg 7 (Z5 aow)) (avh:ab Pg 8 (O2 anI)) (avA:ab Pg 9 (ZU anK)) (auX:ab Pg 11 (OD ank)) (avE:ab Pg 10 (ZY aol)) (aoq:ab Pg 12 (iR alB)) (at3:ab Pg 13 (Rs aoa)) (at5:ab Pg 14 (Ru aob)) (avM:ab Pg 15 (Z4 aov)) (p h r z:Int) (hG:abg N ao0 an2 alW aow anI anK ank aol alB aoa aob aov p h r z (λb=>b)=true):OkC Pg 3 (IH.args [.int p,.int h,.int r,.int z]) [] (.bool true) []:=
 ag4 (cx:=(aeM N ao0 an2 alW aow anI anK ank aol alB aoa aob aov)) (ai (aa av_ (aa avb (aa aqv (aa avN (aa avh (aa avA (aa auX (aa avE (aa aoq (aa at3 (aa at5 (aa avM (ac _))))))))))))) (by kernel_rfl)) (aeJ N ao0 an2 alW aow anI anK ank aol alB aoa aob aov) 0 (by kernel_rfl) (λi_ hi_=>by omega) ((ait N ao0 an2 alW aow anI anK ank aol alB aoa aob aov p h r z (λr H=>match r,H with | .bool b,[]=>b | _,_=>false)).trans hG)
end
end Go.Proofs.YtldenpmpmifnlaaGreatDoor
