/-
  THE TIES: each printed meaning is what the program does (written by program).
  Conditions: none.
-/
import Derived.Test.YteifemaagdeomaaGreatDoorGs
set_option linter.unusedVariables false
namespace Go.Proofs.YteifemaagdeomaaGreatDoor
open Go Go.Mach Go.Proofs
set_option maxRecDepth 50000
def eS:StSh:=⟨(.roi .u32::.roi .u32::sqs 77 []),[]⟩
def q8:StSh:=⟨(.roi .u32::.roi .u32::sqs 77 []),[]⟩
section
variable (N:Nat) (ash:l6) (asC:tu) (atl:BC) (ato:Bz) (asz:tx) (atm:BG)
noncomputable abbrev C4:Cx:=⟨Pg,ao [(148,(GB ash)),(146,(M4 asC)),(177,(To atl)),(176,(Tk ato)),(149,(M9 asz)),(178,(Tu atm))],aB,N⟩
def eO:List Atom->K->Bool:=λa_ κ=>match a_ with
 | [.ints a_2,.ints b_2]=>ah N (JE N ash asC atl ato asz atm (λr0 r1=>κ.ext 0 (q8.build [.ints r0,.ints r1]))) (a_2,b_2)
 | _=>false
def eV:StSh:=⟨(.roi .u32::.roi .u32::sqs 77 []),[]⟩
def q9:StSh:=⟨(.roi .u32::sqs 78 []),[]⟩
def eP:List Atom->K->Bool:=λa_ κ=>match a_ with
 | [.ints a_4,.ints b_4]=>ah N (E6 N ash asC atl ato asz atm (λr0=>κ.ext 2 (q9.build [.ints r0]))) (a_4,b_4)
 | _=>false
def CY:Nat->Option Ann:=λb_=>cond (b_==0) (some ⟨⟨[0,1],[],[],[]⟩,[(0,⟨[0,1],[],[],[]⟩)],some ⟨[4],[],[],[]⟩,some (ay [(eS,eO N ash asC atl ato asz atm)])⟩) (cond (b_==2) (some ⟨⟨[0,1],[],[],[]⟩,[(2,⟨[0],[],[],[]⟩)],some ⟨[4],[],[],[]⟩,some (ay [(eV,eP N ash asC atl ato asz atm)])⟩) (none))
theorem qG:az (C4 N ash asC atl ato asz atm) 0 (CY N ash asC atl ato asz atm) (lp Pg 147 0) (eS,eO N ash asC atl ato asz atm):=by
 intro a κ h;simp only at h;unfold eO at h;split at h
 ·rename_i a_2 b_2;exact .trans (aA (λ(v_:LI × LI)=>eS.build [.ints v_.1,.ints v_.2]) (λv_ K_=>by obtain⟨a_2,b_2⟩:=v_; kernel_rfl) N (a_2,b_2)) h
 ·cases h
theorem qH:az (C4 N ash asC atl ato asz atm) 0 (CY N ash asC atl ato asz atm) (lp Pg 147 1) (eV,eP N ash asC atl ato asz atm):=by
 intro a κ h;simp only at h;unfold eP at h;split at h
 ·rename_i a_4 b_4;exact .trans (aA (λ(v_:LI × LI)=>eV.build [.ints v_.1,.ints v_.2]) (λv_ K_=>by obtain⟨a_4,b_4⟩:=v_; kernel_rfl) N (a_4,b_4)) h
 ·cases h
theorem ut:aC (C4 N ash asC atl ato asz atm) 0 (CY N ash asC atl ato asz atm) (lp Pg 147 0):=
 au [(eS,eO N ash asC atl ato asz atm)] (by kernel_rfl) ⟨qG _ _ _ _ _ _ _,trivial⟩
theorem uu:aC (C4 N ash asC atl ato asz atm) 0 (CY N ash asC atl ato asz atm) (lp Pg 147 1):=
 au [(eV,eP N ash asC atl ato asz atm)] (by kernel_rfl) ⟨qH _ _ _ _ _ _ _,trivial⟩
def Rn (d_:List V) (u_:List (Option Blk)) (a b a_1 b_1:LI):St:=⟨(vws a_1::vws b_1::dqs d_ 0 77 []),[]⟩
theorem anL (d_:List V) (u_:List (Option Blk)) (a b a_1 b_1:LI) (c_:KV):aQ (C4 N ash asC atl ato asz atm) 0 (CY N ash asC atl ato asz atm) ((cds Pg 147).drop 3) 0 (Rn d_ u_ a b a_1 b_1) (kB false Pg 147 0 c_)=Nj N ash asC atl ato asz atm a b a_1 b_1 (λr0=>c_ (vws r0) []):=by kernel_rfl
theorem F6 (a b:LI) (c_:KV) (κn_:St->Bool):aQ (C4 N ash asC atl ato asz atm) 0 (CY N ash asC atl ato asz atm) (sg Pg 147 0 3) 0 (st0 Pg 147 (Jv.args [.ints a,.ints b]) []) { (kB false Pg 147 0 c_)with nrm:=κn_ } = (ash a b (λnr=>cond (decide (nr<0)) (κn_ (Rn (.any::.any::.nil::vws a::vqs 11 (vws a::vws b::vwi nr::.bool true::vws a::vws b::vws a::vqs 55 [])) [] a b b a)) (κn_ (Rn (.any::.any::.nil::vqs 12 (vws a::vws b::vwi nr::.bool false::vqs 58 [])) [] a b a b)))):=by kernel_rfl
theorem Gc (a b:LI) (c_:KV):aQ (C4 N ash asC atl ato asz atm) 0 (CY N ash asC atl ato asz atm) ((cds Pg 147).drop 0) 0 (st0 Pg 147 (Jv.args [.ints a,.ints b]) []) (kB false Pg 147 0 c_)=Wn N ash asC atl ato asz atm a b (λr0=>c_ (vws r0) []):=by rw[cY 0 3 3 rfl];refine(F6 N ash asC atl ato asz atm a b c_ _).trans ?_;simp only[anL];kernel_rfl
theorem apa (a b:LI) (c_:KV):qw false (C4 N ash asC atl ato asz atm) (CY N ash asC atl ato asz atm) 147 (Jv.args [.ints a,.ints b]) [] c_=Wn N ash asC atl ato asz atm a b (λr0=>c_ (vws r0) []):=
 (iC (by kernel_rfl)).trans (Gc N ash asC atl ato asz atm a b c_)
theorem aiL (azU:ab Pg 148 (GB ash)) (aBJ:ab Pg 146 (M4 asC)) (aDI:ab Pg 177 (To atl)) (aDv:ab Pg 176 (Tk ato)) (aBO:ab Pg 149 (M9 asz)) (aDQ:ab Pg 178 (Tu atm)):ab Pg 147 (Wj (Wn N ash asC atl ato asz atm)):=by
 refine aT (md:=false) (cx:=(C4 N ash asC atl ato asz atm)) (aD (aa azU (aa aBJ (aa aDI (aa aDv (aa aBO (aa aDQ (ae _))))))) (by kernel_rfl)) Jv (agw (Wn N ash asC atl ato asz atm)) (CY N ash asC atl ato asz atm) 2 0 (by kernel_rfl) (iL (ut _ _ _ _ _ _ _) (uu _ _ _ _ _ _ _)) ?_;intro a k h;unfold agw at h;split at h;exact⟨[],rfl,rfl,(apa _ _ _ _ _ _ _ _ _ _).trans h⟩;cases h
end
section
variable (N:Nat) (atA:Bv) (ass:l7) (as_:yz) (as0:yp) (asP:uF) (asC:tu) (atj:yA) (ash:l6) (asz:tx)
noncomputable abbrev Ii:Cx:=⟨Pg,ao [(140,(EP (Td atA) (Wi as_) VB)),(143,(CD ass)),(144,(Wa as0)),(145,(M_ asP)),(146,(M4 asC)),(147,(Wj atj)),(148,(GB ash)),(149,(M9 asz))],aB,N⟩
def H6 (N:Nat) (atA:Bv) (ass:l7) (as_:yz) (as0:yp) (asP:uF) (asC:tu) (atj:yA) (ash:l6) (asz:tx):Nat->Option Ann:=λb_=>none
def Mb (d_:List V) (u_:List (Option Blk)) (neg:Bool) (a b:LI) (b_1 b_2:Bool) (a_1 b_3:LI):St:=⟨(.ptr 0 0::.bool neg::vws a_1::vws b_3::dqs d_ 0 85 []),[some ⟨153,1,.cells [.bool b_1,.nil,.bool b_2,.nil]⟩,(u_.getD 0 none),(u_.getD 1 none)]⟩
def Me (d_:List V) (u_:List (Option Blk)) (neg:Bool) (a b:LI) (b_1 b_2:Bool) (n:Int):St:=⟨(.ptr 0 0::.bool neg::vws a::vws b::dqs d_ 0 6 (.ptr 2 0::vwu n::dqs d_ 6 77 [])),[some ⟨153,1,.cells [.bool b_1,.nil,.bool b_2,.nil]⟩,(u_.getD 0 none),some ⟨151,1,.cells [.bool false,vws b]⟩]⟩
theorem anD (d_:List V) (u_:List (Option Blk)) (neg:Bool) (a b:LI) (b_1 b_2:Bool) (a_1 b_3:LI) (c_:KV):aQ (Ii N atA ass as_ as0 asP asC atj ash asz) 1 (H6 N atA ass as_ as0 asP asC atj ash asz) ((cds Pg 127).drop 14) 0 (Mb d_ u_ neg a b b_1 b_2 a_1 b_3) (kB false Pg 127 1 c_)=GF N atA ass as_ as0 asP asC atj ash asz neg a b b_1 b_2 a_1 b_3 (λr0 r1 r2 r3=>c_ (.ptr 0 0) [⟨153,1,.cells [.bool r0,vws r1,.bool r2,vws r3]⟩]):=by kernel_rfl
theorem ant (d_:List V) (u_:List (Option Blk)) (neg:Bool) (a b:LI) (b_1 b_2:Bool) (n:Int) (c_:KV) (κn_:St->Bool):aQ (Ii N atA ass as_ as0 asP asC atj ash asz) 1 (H6 N atA ass as_ as0 asP asC atj ash asz) (sg Pg 127 9 5) 0 (Me d_ u_ neg a b b_1 b_2 n) { (kB false Pg 127 1 c_)with nrm:=κn_ } = (asP a n (λasp=>asP b n (λaso=>as0 false aso (λasl=>aj .i64 asl&&asC false aso (λatd=>aj .i64 (atd - 1)&&cond (asl != (atd - 1)) (atj asp aso (λs6=>ass (λs7=>ash s6 s7 (λat9=>cond (at9 != 0) (asz asp s6 (λs8 s9=>asz aso s6 (λs10 s11=>κn_ (Mb (dqs d_ 0 6 (.ptr 2 0::vwu n::(dq d_ 6)::vws s6::dqs d_ 8 27 (vws a::vwu n::vws asp::vws b::vwu n::vws aso::.ptr 2 0::vws aso::.ptr 2 0::.ptr 2 1::.ptr 2 0::vwu asl::vwi asl::.ptr 2 0::vwi atd::vwi (atd - 1)::.bool true::vws asp::vws aso::vws s6::vws s6::vws s7::vwi at9::.bool true::.tup [vws s8,vws s9]::vws asp::vws s6::.tup [vws s8,vws s9]::vws s8::vws s9::.tup [vws s10,vws s11]::vws aso::vws s6::.tup [vws s10,vws s11]::vws s10::vws s11::dqs d_ 71 12 []))) [(u_.getD 0 none),some ⟨151,1,.cells [.bool false,vws aso]⟩] neg a b b_1 b_2 s8 s10)))) (κn_ (Mb (dqs d_ 0 6 (.ptr 2 0::vwu n::(dq d_ 6)::vws s6::dqs d_ 8 27 (vws a::vwu n::vws asp::vws b::vwu n::vws aso::.ptr 2 0::vws aso::.ptr 2 0::.ptr 2 1::.ptr 2 0::vwu asl::vwi asl::.ptr 2 0::vwi atd::vwi (atd - 1)::.bool true::vws asp::vws aso::vws s6::vws s6::vws s7::vwi at9::.bool false::dqs d_ 59 24 []))) [(u_.getD 0 none),some ⟨151,1,.cells [.bool false,vws aso]⟩] neg a b b_1 b_2 asp aso)))))) (κn_ (Mb (dqs d_ 0 6 (.ptr 2 0::vwu n::dqs d_ 6 29 (vws a::vwu n::vws asp::vws b::vwu n::vws aso::.ptr 2 0::vws aso::.ptr 2 0::.ptr 2 1::.ptr 2 0::vwu asl::vwi asl::.ptr 2 0::vwi atd::vwi (atd - 1)::.bool false::dqs d_ 52 31 []))) [(u_.getD 0 none),some ⟨151,1,.cells [.bool false,vws aso]⟩] neg a b b_1 b_2 asp aso))))))):=by kernel_rfl
theorem anG (d_:List V) (u_:List (Option Blk)) (neg:Bool) (a b:LI) (b_1 b_2:Bool) (n:Int) (c_:KV):aQ (Ii N atA ass as_ as0 asP asC atj ash asz) 1 (H6 N atA ass as_ as0 asP asC atj ash asz) ((cds Pg 127).drop 9) 0 (Me d_ u_ neg a b b_1 b_2 n) (kB false Pg 127 1 c_)=Ub N atA ass as_ as0 asP asC atj ash asz neg a b b_1 b_2 n (λr0 r1 r2 r3=>c_ (.ptr 0 0) [⟨153,1,.cells [.bool r0,vws r1,.bool r2,vws r3]⟩]):=by rw[cY 9 5 14 rfl];refine(ant N atA ass as_ as0 asP asC atj ash asz d_ u_ neg a b b_1 b_2 n c_ _).trans ?_;simp only[anD];kernel_rfl
theorem anx (neg:Bool) (a b:LI) (b_1 b_2:Bool) (c_:KV) (κn_:St->Bool):aQ (Ii N atA ass as_ as0 asP asC atj ash asz) 1 (H6 N atA ass as_ as0 asP asC atj ash asz) (sg Pg 127 0 9) 0 (st0 Pg 127 (Js.args [.bool neg,.ints a,.ints b,.bool b_1,.bool b_2]) [⟨153,1,.cells [.bool b_1,.nil,.bool b_2,.nil]⟩]) { (kB false Pg 127 1 c_)with nrm:=κn_ } = (cond (((a.length:Nat):Int)==0) (atA false [] b_1 b_2 (λcr nsr asj=>ass (λasy=>as_ false asy cr nsr b_2 asj (λasD ast=>c_ (.ptr 0 0) [⟨153,1,.cells [.bool cr,vws nsr,.bool asD,vws ast]⟩])))) (as0 false a (λnr=>as0 false b (λask=>cond (decide (ask<nr)) (κn_ (Me (vqs 4 (.val (.pointer none)::.ptr 1 0::vwu ask::.any::vws a::.agg [.bool false,vws a]::.ptr 1 0::vws b::.agg [.bool false,vws b]::.ptr 2 0::vws a::vwi ((a.length:Nat):Int)::.bool false::vqs 10 (.ptr 1 0::vwu nr::.ptr 2 0::vwu ask::vwu ask::vwu nr::.bool true::vwu ask::vqs 48 []))) [some ⟨151,1,.cells [.bool false,vws a]⟩] neg a b b_1 b_2 ask)) (κn_ (Me (vqs 4 (.val (.pointer none)::.ptr 1 0::vwu ask::.any::vws a::.agg [.bool false,vws a]::.ptr 1 0::vws b::.agg [.bool false,vws b]::.ptr 2 0::vws a::vwi ((a.length:Nat):Int)::.bool false::vqs 10 (.ptr 1 0::vwu nr::.ptr 2 0::vwu ask::vwu ask::vwu nr::.bool false::vqs 49 []))) [some ⟨151,1,.cells [.bool false,vws a]⟩] neg a b b_1 b_2 nr)))))):=by kernel_rfl
theorem anU (neg:Bool) (a b:LI) (b_1 b_2:Bool) (c_:KV):aQ (Ii N atA ass as_ as0 asP asC atj ash asz) 1 (H6 N atA ass as_ as0 asP asC atj ash asz) ((cds Pg 127).drop 0) 0 (st0 Pg 127 (Js.args [.bool neg,.ints a,.ints b,.bool b_1,.bool b_2]) [⟨153,1,.cells [.bool b_1,.nil,.bool b_2,.nil]⟩]) (kB false Pg 127 1 c_)=Wk N atA ass as_ as0 asP asC atj ash asz neg a b b_1 b_2 (λr0 r1 r2 r3=>c_ (.ptr 0 0) [⟨153,1,.cells [.bool r0,vws r1,.bool r2,vws r3]⟩]):=by rw[cY 0 9 9 rfl];refine(anx N atA ass as_ as0 asP asC atj ash asz neg a b b_1 b_2 c_ _).trans ?_;simp only[anG];kernel_rfl
theorem ao6 (neg:Bool) (a b:LI) (b_1 b_2:Bool) (c_:KV):qw false (Ii N atA ass as_ as0 asP asC atj ash asz) (H6 N atA ass as_ as0 asP asC atj ash asz) 127 (Js.args [.bool neg,.ints a,.ints b,.bool b_1,.bool b_2]) [⟨153,1,.cells [.bool b_1,.nil,.bool b_2,.nil]⟩] c_=Wk N atA ass as_ as0 asP asC atj ash asz neg a b b_1 b_2 (λr0 r1 r2 r3=>c_ (.ptr 0 0) [⟨153,1,.cells [.bool r0,vws r1,.bool r2,vws r3]⟩]):=
 (iC (by kernel_rfl)).trans (anU N atA ass as_ as0 asP asC atj ash asz neg a b b_1 b_2 c_)
theorem aia (aDk:ab Pg 140 (Td atA)) (axO:ab Pg 143 (CD ass)) (aCA:ab Pg 140 (Wi as_)) (aCp:ab Pg 144 (Wa as0)) (aBQ:ab Pg 145 (M_ asP)) (aBJ:ab Pg 146 (M4 asC)) (aCB:ab Pg 147 (Wj atj)) (azU:ab Pg 148 (GB ash)) (aBO:ab Pg 149 (M9 asz)):ab Pg 127 (We (Wk N atA ass as_ as0 asP asC atj ash asz)):=by
 refine aT (md:=false) (cx:=(Ii N atA ass as_ as0 asP asC atj ash asz)) (aD (aa (mw aDk aCA) (aa axO (aa aCp (aa aBQ (aa aBJ (aa aCB (aa azU (aa aBO (ae _))))))))) (by kernel_rfl)) Js (age (Wk N atA ass as_ as0 asP asC atj ash asz)) (H6 N atA ass as_ as0 asP asC atj ash asz) 0 1 (by kernel_rfl) (λi_ hi_=>by omega) ?_;intro a k h;unfold age at h;split at h;exact⟨[_],rfl,rfl,(ao6 _ _ _ _ _ _ _ _ _ _ _ _ _ _ _ _).trans h⟩;cases h
end
theorem aby (N:Nat) (ass:l7) (avY:yw) (axO:ab Pg 143 (CD ass)) (aAC:ab Pg 127 (We avY)):ab Pg 165 (XQ (YP N ass avY)):=by
 refine gfZ N false (aa axO (aa aAC (ae _))) 2 ?_;intro a k h;unfold aeW at h;split at h;exact⟨[_,_],rfl,rfl,.trans (by kernel_rfl) h⟩;cases h
section
variable (N:Nat) (atC:tm) (atq:pP)
noncomputable abbrev Oa:Cx:=⟨Pg,ao [(202,(Kj atC)),(140,(GA atq))],aB,N⟩
def HY (N:Nat) (atC:tm) (atq:pP):Nat->Option Ann:=λb_=>none
def Rp (d_:List V) (u_:List (Option Blk)) (n:Int) (b:Bool) (u:Int):St:=⟨(.ptr 0 0::vwi n::dqs d_ 0 3 (vwu u::dqs d_ 3 12 [])),[some ⟨151,1,.cells [.bool b,.nil]⟩]⟩
theorem anO (d_:List V) (u_:List (Option Blk)) (n:Int) (b:Bool) (u:Int) (c_:KV):aQ (Oa N atC atq) 1 (HY N atC atq) ((cds Pg 200).drop 4) 0 (Rp d_ u_ n b u) (kB false Pg 200 1 c_)=Ud N atC atq n b u (λr0 r1=>c_ (.ptr 0 0) [⟨151,1,.cells [.bool r0,vws r1]⟩]):=by kernel_rfl
theorem yZ (n:Int) (b:Bool) (c_:KV) (κn_:St->Bool):aQ (Oa N atC atq) 1 (HY N atC atq) (sg Pg 200 0 4) 0 (st0 Pg 200 (DQ.args [.int n,.bool b]) [⟨151,1,.cells [.bool b,.nil]⟩]) { (kB false Pg 200 1 c_)with nrm:=κn_ } = (cond (decide (n<0)) (κn_ (Rp (.any::.any::.val (.pointer none)::vwi n::vwu (IntKind.wrap .u64 n)::vwi n::.bool true::vwu (IntKind.wrap .u64 n)::vwu (IntKind.wrap .u64 (0 - (IntKind.wrap .u64 n)))::vqs 6 []) [] n b (IntKind.wrap .u64 (0 - (IntKind.wrap .u64 n))))) (κn_ (Rp (.any::.any::.val (.pointer none)::vwi n::vwu (IntKind.wrap .u64 n)::vwi n::.bool false::vqs 8 []) [] n b (IntKind.wrap .u64 n)))):=by kernel_rfl
theorem zu (n:Int) (b:Bool) (c_:KV):aQ (Oa N atC atq) 1 (HY N atC atq) ((cds Pg 200).drop 0) 0 (st0 Pg 200 (DQ.args [.int n,.bool b]) [⟨151,1,.cells [.bool b,.nil]⟩]) (kB false Pg 200 1 c_)=Kp N atC atq n b (λr0 r1=>c_ (.ptr 0 0) [⟨151,1,.cells [.bool r0,vws r1]⟩]):=by rw[cY 0 4 4 rfl];refine(yZ N atC atq n b c_ _).trans ?_;simp only[anO];kernel_rfl
theorem am3 (n:Int) (b:Bool) (c_:KV):qw false (Oa N atC atq) (HY N atC atq) 200 (DQ.args [.int n,.bool b]) [⟨151,1,.cells [.bool b,.nil]⟩] c_=Kp N atC atq n b (λr0 r1=>c_ (.ptr 0 0) [⟨151,1,.cells [.bool r0,vws r1]⟩]):=
 (iC (by kernel_rfl)).trans (zu N atC atq n b c_)
theorem acl (az9:ab Pg 202 (Kj atC)) (azb:ab Pg 140 (GA atq)):ab Pg 200 (X8 (Kp N atC atq)):=by
 refine aT (md:=false) (cx:=(Oa N atC atq)) (aD (aa az9 (aa azb (ae _))) (by kernel_rfl)) DQ (Sr (Kp N atC atq)) (HY N atC atq) 0 1 (by kernel_rfl) (λi_ hi_=>by omega) ?_;intro a k h;unfold Sr at h;split at h;exact⟨[_],rfl,rfl,(am3 _ _ _ _ _ _).trans h⟩;cases h
end
theorem acX (N:Nat) (ayp:G3) (aDC:ab Pg 200 (X8 ayp)):ab Pg 169 (Yp (ZG N ayp)):=by
 refine gfZ N false (aa aDC (ae _)) 0 ?_;intro a k h;unfold afR at h;split at h;exact⟨[],rfl,rfl,.trans (by kernel_rfl) h⟩;cases h
theorem aiI (N:Nat) (avY:yw) (aAC:ab Pg 127 (We avY)):ab Pg 167 (ame (amI N avY)):=by
 refine gfZ N false (aa aAC (ae _)) 3 ?_;intro a k h;unfold al4 at h;split at h;exact⟨[_,_,_],rfl,rfl,.trans (by kernel_rfl) h⟩;cases h
theorem ab3 (N:Nat) (aya:GN) (axC:GK) (ayF:Hk) (awp:BA) (az7:Nr) (aDf:ab Pg 166 (XT aya)) (aC3:ab Pg 165 (XQ axC)) (aD3:ab Pg 169 (Yp ayF)) (aBx:ab Pg 168 (Tl awp)) (aEZ:ab Pg 167 (ame az7)):ab Pg 138 (X0 (Y9 N aya axC ayF awp az7)):=by
 refine gfV N (aa aDf (aa aC3 (aa aD3 (aa aBx (aa aEZ (ae _)))))) 1 ?_;intro a k h;unfold aff at h;split at h;exact⟨[_],rfl,rfl,.trans (by kernel_rfl) h⟩;cases h
theorem acR (N:Nat) (ayU:HC) (ayh:GU) (aEm:ab Pg 139 (YG ayU)) (aDp:ab Pg 138 (X0 ayh)):ab Pg 121 (Tx (ZC N ayU ayh)):=by
 refine gfV N (aa aEm (aa aDp (ae _))) 0 ?_;intro a k h;unfold afM at h;split at h;exact⟨[],rfl,rfl,.trans (by kernel_rfl) h⟩;cases h
def dH:StSh:=⟨(.any::.any::.ptr 0 0::.ptr 1 0::sqs 8 (.rof::.int .i64::.int .i64::sqs 12 [])),[some (126,1,.cells [.int .i64,.int .i64,.nil]),some (126,1,.cells [.int .i64,.int .i64,.slw 2]),some (146,1,.own 153 RT2)]⟩
def lf:StSh:=⟨(.any::.any::.ptr 0 0::.ptr 1 0::sqs 23 []),[some (126,1,.cells [.int .i64,.int .i64,.nil]),some (126,1,.cells [.int .i64,.int .i64,.slw 2]),some (146,1,.own 153 RT2)]⟩
section
variable (N:Nat) (auB:Ed)
noncomputable abbrev Un:Cx:=⟨Pg,ao [(121,(Tx auB))],aB,N⟩
def fu:List Atom->K->Bool:=λa_ κ=>match a_ with
 | [.fls ayX,.int azj,.int awT,.int axa,.int axb,.int r_2,.int r_3,.recs t7_ b2]=>RT.cast RT2 t7_ b2 (λb2=>ah N (mn N auB ayX azj axa axb r_2 r_3 (λr4=>κ.ext 0 (lf.build [.int axa,.int axb,.int r_2,.int r_3,.recs RT2 r4]))) (awT,b2)) false
 | _=>false
def H5:Nat->Option Ann:=λb_=>cond (b_==0) (some ⟨⟨[2,3,12,13,14],[(3,some 2,293)],[],[]⟩,[(0,⟨[2,3],[],[],[]⟩)],some ⟨[2],[],[],[]⟩,some (ay [(dH,fu N auB)])⟩) (none)
theorem sf (κ:K) (ayX:LF) (azj awT axa axb r_2 r_3:Int) (b2:List RY2):rE N (λs k=>dA (Un N auB) 0 (H5 N auB) (lp Pg 106 0).2 (lp Pg 106 0).1 s (kL Pg 0 ((H5 N auB) (lp Pg 106 0).1) κ k)) (dH.build [.fls ayX,.int azj,.int awT,.int axa,.int axb,.int r_2,.int r_3,.recs RT2 b2])=ah N (mn N auB ayX azj axa axb r_2 r_3 (λr4=>κ.ext 0 (lf.build [.int axa,.int axb,.int r_2,.int r_3,.recs RT2 r4]))) (awT,b2):=
 aA (λ(v_:Int × List RY2)=>dH.build [.fls ayX,.int azj,.int v_.1,.int axa,.int axb,.int r_2,.int r_3,.recs RT2 v_.2]) (λv_ K_=>by obtain⟨awT,b2⟩:=v_; kernel_rfl) N (awT,b2)
theorem rv:az (Un N auB) 0 (H5 N auB) (lp Pg 106 0) (dH,fu N auB):=by
 intro a κ h;simp only at h;unfold fu at h;split at h
 ·obtain⟨e_,h⟩:=RT.cast_inv h (by decide); subst e_; exact(sf _ _ _ _ _ _ _ _ _ _ _).trans h
 ·cases h
theorem vm:aC (Un N auB) 0 (H5 N auB) (lp Pg 106 0):=
 au [(dH,fu N auB)] (by kernel_rfl) ⟨rv _ _,trivial⟩
theorem ac3 (aDY:ab Pg 121 (Tx auB)):ab Pg 106 (Yu (T6 N auB)):=by
 refine bH (cx:=(Un N auB)) (aD (aa aDY (ae _)) (by kernel_rfl)) VP (SI (T6 N auB)) (H5 N auB) 1 0 (by kernel_rfl) (aJ (vm _ _)) ?_;intro a k h;unfold SI at h;split at h;exact⟨[],rfl,rfl,.trans (by kernel_rfl) h⟩;cases h
end
theorem ac8 (N:Nat) (ayJ:Hp) (aD9:ab Pg 106 (Yu ayJ)):ab Pg 92 (Yy (ZN N ayJ)):=by
 refine gfV N (aa aD9 (ae _)) 0 ?_;intro a k h;unfold afY at h;split at h;exact⟨[],rfl,rfl,.trans (by kernel_rfl) h⟩;cases h
def dj:StSh:=⟨(.int .i64::.int .i64::.any::.any::.ptr 0 0::.ptr 1 0::.int .i64::sqs 17 []),[some (126,1,.cells [.int .i64,.int .i64,.nil]),some (126,1,.cells [.int .i64,.int .i64,.slw 2]),some (146,1,.own 153 RT2)]⟩
def kw:StSh:=⟨(sqs 4 (.ptr 0 0::.ptr 1 0::sqs 18 [])),[some (126,1,.cells [.int .i64,.int .i64,.nil]),some (126,1,.cells [.int .i64,.int .i64,.slw 2]),some (146,1,.own 153 RT2)]⟩
def eR (N:Nat):List Atom->K->Bool:=λa_ κ=>match a_ with
 | [.int aw6,.int aw2,.int i_1,.int awO,.int awP,.int m_2,.int m_3,.recs t7_ b2]=>RT.cast RT2 t7_ b2 (λb2=>ah N (lc N aw6 aw2 awO awP m_2 m_3 (λr4=>κ.ext 0 (kw.build [.int awO,.int awP,.int m_2,.int m_3,.recs RT2 r4]))) (i_1,b2)) false
 | _=>false
def HZ (N:Nat):Nat->Option Ann:=λb_=>cond (b_==0) (some ⟨⟨[0,1,4,5,6],[(5,some 2,293)],[],[]⟩,[(0,⟨[4,5],[],[],[]⟩)],some ⟨[4],[],[],[]⟩,some (ay [(dj,eR N)])⟩) (none)
theorem rb (N:Nat) (κ:K) (aw6 aw2 i_1 awO awP m_2 m_3:Int) (b2:List RY2):rE N (λs k=>dA ⟨Pg,ao [],aB,N⟩ 0 (HZ N) (lp Pg 122 0).2 (lp Pg 122 0).1 s (kL Pg 0 ((HZ N) (lp Pg 122 0).1) κ k)) (dj.build [.int aw6,.int aw2,.int i_1,.int awO,.int awP,.int m_2,.int m_3,.recs RT2 b2])=ah N (lc N aw6 aw2 awO awP m_2 m_3 (λr4=>κ.ext 0 (kw.build [.int awO,.int awP,.int m_2,.int m_3,.recs RT2 r4]))) (i_1,b2):=
 aA (λ(v_:Int × List RY2)=>dj.build [.int aw6,.int aw2,.int v_.1,.int awO,.int awP,.int m_2,.int m_3,.recs RT2 v_.2]) (λv_ K_=>by obtain⟨i_1,b2⟩:=v_; kernel_rfl) N (i_1,b2)
theorem qJ (N:Nat):az ⟨Pg,ao [],aB,N⟩ 0 (HZ N) (lp Pg 122 0) (dj,eR N):=by
 intro a κ h;simp only at h;unfold eR at h;split at h
 ·obtain⟨e_,h⟩:=RT.cast_inv h (by decide); subst e_; exact(rb _ _ _ _ _ _ _ _ _ _).trans h
 ·cases h
theorem uv (N:Nat):aC ⟨Pg,ao [],aB,N⟩ 0 (HZ N) (lp Pg 122 0):=
 au [(dj,eR N)] (by kernel_rfl) ⟨qJ _,trivial⟩
theorem acC (N:Nat):ab Pg 122 (Tt (TZ N)):=by
 refine bH (cx:=⟨Pg,ao [],aB,N⟩) (aD (ae _) (by kernel_rfl)) VH (Sx (TZ N)) (HZ N) 1 0 (by kernel_rfl) (aJ (uv _)) ?_;intro a k h;unfold Sx at h;split at h;exact⟨[],rfl,rfl,.trans (by kernel_rfl) h⟩;cases h
theorem acs (N:Nat) (ass:l7) (axO:ab Pg 143 (CD ass)):ab Pg 129 (Tn (Zn N ass)):=by
 refine gfZ N false (aa axO (ae _)) 0 ?_;intro a k h;unfold Su at h;split at h;exact⟨[],rfl,rfl,.trans (by kernel_rfl) h⟩;cases h
theorem acE (N:Nat) (SQ7:jN) (hQ7:ab Pg 150 (FQ7 SQ7)):ab Pg 140 (Ye (Zu N SQ7)):=by
 refine gfZ N false (aa hQ7 (ae _)) 2 ?_;intro a k h;unfold afD at h;split at h;exact⟨[_,_],rfl,rfl,.trans (by kernel_rfl) h⟩;cases h
theorem acz (N:Nat) (SQ7:jN) (hQ7:ab Pg 150 (FQ7 SQ7)):ab Pg 140 (Yd (Zr N SQ7)):=by
 refine gfZ N false (aa hQ7 (ae _)) 3 ?_;intro a k h;unfold afA at h;split at h;exact⟨[_,_,_],rfl,rfl,.trans (by kernel_rfl) h⟩;cases h
theorem abD (N:Nat) (awZ:Ea) (ayw:G_) (ayv:G9) (aDH:ab Pg 129 (Tn awZ)) (aDO:ab Pg 140 (Ye ayw)) (aDK:ab Pg 140 (Yd ayv)):ab Pg 123 (SX (YR N awZ ayw ayv)):=by
 refine ggZ N false (nY (aa aDH (aa (mw (sh:=VI) aDO aDK) (ae _))) ⟨(dk (by kernel_rfl) (si awZ)),(fe (by kernel_rfl)),trivial⟩) 1 ?_;intro a k h;unfold aeY at h;split at h;exact⟨[_],rfl,rfl,.trans (by kernel_rfl) h⟩;cases h
def bO:StSh:=⟨(.any::.ptr 0 0::.ptr 1 0::.ptr 2 0::sqs 8 (.int .i64::.int .i64::sqs 15 [])),[some (126,1,.cells [.int .i64,.int .i64,.rl RT3]),some (126,1,.cells [.int .i64,.int .i64,.nil]),some (126,1,.cells [.int .i64,.int .i64,.slw 3]),some (146,1,.own 153 RT2)]⟩
def iF:StSh:=⟨(.any::.any::.ptr 0 0::.ptr 1 0::sqs 25 []),[some (126,1,.cells [.int .i64,.int .i64,.nil]),some (126,1,.cells [.int .i64,.int .i64,.slw 2]),some (146,1,.own 153 RT2)]⟩
section
variable (N:Nat) (auA:Eb) (auz:D7)
noncomputable abbrev Uo:Cx:=⟨Pg,ao [(122,(Tt auA)),(123,(SX auz))],aB,N⟩
def db:List Atom->K->Bool:=λa_ κ=>match a_ with
 | [.int t12,.int t13,.int m,.int m_3,.recs t4_ m_4,.int t2,.int axj,.int t,.int t_1,.recs t9_ b3]=>RT.cast RT3 t4_ m_4 (λm_4=>RT.cast RT2 t9_ b3 (λb3=>ah N (JH N auA auz t12 m m_3 m_4 t2 axj t t_1 (λr4=>κ.ext 0 (iF.build [.int t2,.int axj,.int t,.int t_1,.recs RT2 r4]))) (t13,b3)) false) false
 | _=>false
def Nz:Nat->Option Ann:=λb_=>cond (b_==0) (some ⟨⟨[1,2,3,12,13],[],[],[]⟩,[(0,⟨[2,3],[],[],[]⟩)],some ⟨[2],[],[],[]⟩,some (ay [(bO,db N auA auz)])⟩) (none)
theorem nN (κ:K) (t12 t13 m m_3:Int) (m_4:List RY3) (t2 axj t t_1:Int) (b3:List RY2):rE N (λs k=>dA (Uo N auA auz) 0 (Nz N auA auz) (lp Pg 107 0).2 (lp Pg 107 0).1 s (kL Pg 0 ((Nz N auA auz) (lp Pg 107 0).1) κ k)) (bO.build [.int t12,.int t13,.int m,.int m_3,.recs RT3 m_4,.int t2,.int axj,.int t,.int t_1,.recs RT2 b3])=ah N (JH N auA auz t12 m m_3 m_4 t2 axj t t_1 (λr4=>κ.ext 0 (iF.build [.int t2,.int axj,.int t,.int t_1,.recs RT2 r4]))) (t13,b3):=
 aA (λ(v_:Int × List RY2)=>bO.build [.int t12,.int v_.1,.int m,.int m_3,.recs RT3 m_4,.int t2,.int axj,.int t,.int t_1,.recs RT2 v_.2]) (λv_ K_=>by obtain⟨t13,b3⟩:=v_; kernel_rfl) N (t13,b3)
theorem nt:az (Uo N auA auz) 0 (Nz N auA auz) (lp Pg 107 0) (bO,db N auA auz):=by
 intro a κ h;simp only at h;unfold db at h;split at h
 ·obtain⟨e_,h⟩:=RT.cast_inv h (by decide); subst e_; obtain⟨e_,h⟩:=RT.cast_inv h (by decide); subst e_; exact(nN _ _ _ _ _ _ _ _ _ _ _ _ _ _).trans h
 ·cases h
theorem pz:aC (Uo N auA auz) 0 (Nz N auA auz) (lp Pg 107 0):=
 au [(bO,db N auA auz)] (by kernel_rfl) ⟨nt _ _ _,trivial⟩
theorem aib (aDN:ab Pg 122 (Tt auA)) (aC7:ab Pg 123 (SX auz)):ab Pg 107 (agN (ahg N auA auz)):=by
 refine bH (cx:=(Uo N auA auz)) (aD (aa aDN (aa aC7 (ae _))) (by kernel_rfl)) aeC (agf (ahg N auA auz)) (Nz N auA auz) 1 0 (by kernel_rfl) (aJ (pz _ _ _)) ?_;intro a k h;unfold agf at h;split at h
 ·obtain⟨e_,h⟩:=RT.cast_inv h (by decide); subst e_; exact⟨[],rfl,rfl,.trans (by kernel_rfl) h⟩
 ·cases h
end
theorem ah3 (N:Nat):ab Pg 108 (Wc (amo N)):=by
 refine gfV N (ae _) 1 ?_;intro a k h;unfold alI at h;split at h
 ·obtain⟨e_,h⟩:=RT.cast_inv h (by decide); subst e_; exact⟨[_],rfl,rfl,.trans (by kernel_rfl) h⟩
 ·cases h
theorem adi (N:Nat):ab Pg 124 (YF (ZS N)):=by
 refine gfZ N false (ae _) 0 ?_;intro a k h;unfold af6 at h;split at h;exact⟨[],rfl,rfl,.trans (by kernel_rfl) h⟩;cases h
theorem aiN (N:Nat) (ayT:HB) (aEl:ab Pg 124 (YF ayT)):ab Pg 109 (ag3 (amL N ayT)):=by
 refine gfZ N false (aa aEl (ae _)) 0 ?_;intro a k h;unfold al6 at h;split at h;exact⟨[],rfl,rfl,.trans (by kernel_rfl) h⟩;cases h
theorem ah4 (N:Nat) (ass:l7) (axO:ab Pg 143 (CD ass)):ab Pg 129 (PX (amp N ass)):=by
 refine gfZ N false (aa axO (ae _)) 1 ?_;intro a k h;unfold agb at h;split at h;exact⟨[_],rfl,rfl,.trans (by kernel_rfl) h⟩;cases h
theorem ahW (N:Nat) (au_:xx) (at7:pQ) (avY:yw) (aAz:ab Pg 129 (PX au_)) (axN:ab Pg 128 (GC at7)) (aAC:ab Pg 127 (We avY)):ab Pg 111 (agJ (aml N au_ at7 avY)):=by
 refine ggZ N false (nY (aa aAz (aa axN (aa aAC (ae _)))) ⟨(dk (by kernel_rfl) (dB au_)),(fe (by kernel_rfl)),(fe (by kernel_rfl)),trivial⟩) 3 ?_;intro a k h;unfold alD at h;split at h;exact⟨[_,_,_],rfl,rfl,.trans (by kernel_rfl) h⟩;cases h
theorem aig (N:Nat) (at7:pQ) (au_:xx) (avY:yw) (axN:ab Pg 128 (GC at7)) (aAz:ab Pg 129 (PX au_)) (aAC:ab Pg 127 (We avY)):ab Pg 126 (agQ (amv N at7 au_ avY)):=by
 refine ggZ N false (nY (aa axN (aa aAz (aa aAC (ae _)))) ⟨(fe (by kernel_rfl)),(dk (by kernel_rfl) (dB au_)),(fe (by kernel_rfl)),trivial⟩) 3 ?_;intro a k h;unfold alO at h;split at h;exact⟨[_,_,_],rfl,rfl,.trans (by kernel_rfl) h⟩;cases h
theorem ab2 (N:Nat) (au_:xx) (at7:pQ) (aAz:ab Pg 129 (PX au_)) (axN:ab Pg 128 (GC at7)):ab Pg 141 (XZ (Y8 N au_ at7)):=by
 refine ggZ N false (nY (aa aAz (aa axN (ae _))) ⟨(dk (by kernel_rfl) (dB au_)),(fe (by kernel_rfl)),trivial⟩) 2 ?_;intro a k h;unfold afe at h;split at h;exact⟨[_,_],rfl,rfl,.trans (by kernel_rfl) h⟩;cases h
def fZ:StSh:=⟨(.roi .u32::.roi .u32::sqs 4 (.slw 0::.int .u64::.int .i64::sqs 52 [])),[some (195,1,.ints .u32)]⟩
def sS:StSh:=⟨(.roi .u32::sqs 5 (.slw 0::.int .u64::sqs 53 [])),[some (195,1,.ints .u32)]⟩
section
variable (N:Nat) (SQ7:jN)
noncomputable abbrev aaW:Cx:=⟨Pg,ao [(150,(FQ7 SQ7))],aB,N⟩
def fR:List Atom->K->Bool:=λa_ κ=>match a_ with
 | [.ints a_1,.ints b_1,.int carry,.int i,.ints out]=>ah N (lm N SQ7 a_1 b_1 (λr1 r2=>κ.ext 0 (sS.build [.ints a_1,.int r1,.ints r2]))) (carry,i,out)
 | _=>false
def Qw:Nat->Option Ann:=λb_=>cond (b_==0) (some ⟨⟨[0,1,6,7,8],[],[],[]⟩,[(0,⟨[0,6,7],[],[],[]⟩)],some ⟨[4],[],[],[]⟩,some (ay [(fZ,fR N SQ7)])⟩) (none)
theorem sD:az (aaW N SQ7) 0 (Qw N SQ7) (lp Pg 203 0) (fZ,fR N SQ7):=by
 intro a κ h;simp only at h;unfold fR at h;split at h
 ·rename_i a_1 b_1 carry i out;exact .trans (aA (λ(v_:Int × Int × LI)=>fZ.build [.ints a_1,.ints b_1,.int v_.1,.int v_.2.1,.ints v_.2.2]) (λv_ K_=>by obtain⟨carry,i,out⟩:=v_; kernel_rfl) N (carry,i,out)) h
 ·cases h
theorem vZ:aC (aaW N SQ7) 0 (Qw N SQ7) (lp Pg 203 0):=
 au [(fZ,fR N SQ7)] (by kernel_rfl) ⟨sD _ _,trivial⟩
theorem adc (hQ7:ab Pg 150 (FQ7 SQ7)):ab Pg 203 (YC (T_ N SQ7)):=by
 refine aT (md:=false) (cx:=(aaW N SQ7)) (aD (aa hQ7 (ae _)) (by kernel_rfl)) VU (SO (T_ N SQ7)) (Qw N SQ7) 1 0 (by kernel_rfl) (aJ (vZ _ _)) ?_;intro a k h;unfold SO at h;split at h;exact⟨[],rfl,rfl,.trans (by kernel_rfl) h⟩;cases h
end
theorem acj (N:Nat) (ayQ:Hy) (atq:pP) (ash:l6) (awd:BH) (aEi:ab Pg 203 (YC ayQ)) (azb:ab Pg 140 (GA atq)) (azU:ab Pg 148 (GB ash)) (aBD:ab Pg 204 (Tw awd)):ab Pg 173 (X6 (Zg N ayQ atq ash awd)):=by
 refine gfZ N false (aa aEi (aa azb (aa azU (aa aBD (ae _))))) 3 ?_;intro a k h;unfold afp at h;split at h;exact⟨[_,_,_],rfl,rfl,.trans (by kernel_rfl) h⟩;cases h
theorem aci (N:Nat) (ayn:G0) (aDA:ab Pg 173 (X6 ayn)):ab Pg 142 (X5 (Zf N ayn)):=by
 refine gfZ N false (aa aDA (ae _)) 3 ?_;intro a k h;unfold afo at h;split at h;exact⟨[_,_,_],rfl,rfl,.trans (by kernel_rfl) h⟩;cases h
theorem abC (N:Nat) (auX:tn) (aze:ab Pg 150 (Kk auX)):ab Pg 140 (SW (TN N auX)):=by
 refine gfZ N false (aa aze (ae _)) 1 ?_;intro a k h;unfold aeX at h;split at h;exact⟨[_],rfl,rfl,.trans (by kernel_rfl) h⟩;cases h
section
variable (N:Nat) (atz:Bm) (ass:l7) (as_:yz) (as0:yp) (asP:uF) (asC:tu) (atj:yA) (ash:l6) (asz:tx)
noncomputable abbrev Ij:Cx:=⟨Pg,ao [(140,(EP (SW atz) (Wi as_) Vw)),(143,(CD ass)),(144,(Wa as0)),(145,(M_ asP)),(146,(M4 asC)),(147,(Wj atj)),(148,(GB ash)),(149,(M9 asz))],aB,N⟩
def BR (N:Nat) (atz:Bm) (ass:l7) (as_:yz) (as0:yp) (asP:uF) (asC:tu) (atj:yA) (ash:l6) (asz:tx):Nat->Option Ann:=λb_=>none
def Mc (d_:List V) (u_:List (Option Blk)) (neg:Bool) (a b:LI) (b_1:Bool) (b_2:LI) (b_3:Bool) (b_4 a_1 b_5:LI):St:=⟨(.ptr 0 0::.bool neg::vws a_1::vws b_5::dqs d_ 0 85 []),[some ⟨153,1,.cells [.bool b_1,vws b_2,.bool b_3,vws b_4]⟩,(u_.getD 0 none),(u_.getD 1 none)]⟩
def Mf (d_:List V) (u_:List (Option Blk)) (neg:Bool) (a b:LI) (b_1:Bool) (b_2:LI) (b_3:Bool) (b_4:LI) (n:Int):St:=⟨(.ptr 0 0::.bool neg::vws a::vws b::dqs d_ 0 6 (.ptr 2 0::vwu n::dqs d_ 6 77 [])),[some ⟨153,1,.cells [.bool b_1,vws b_2,.bool b_3,vws b_4]⟩,(u_.getD 0 none),some ⟨151,1,.cells [.bool false,vws b]⟩]⟩
theorem anE (d_:List V) (u_:List (Option Blk)) (neg:Bool) (a b:LI) (b_1:Bool) (b_2:LI) (b_3:Bool) (b_4 a_1 b_5:LI) (c_:KV):aQ (Ij N atz ass as_ as0 asP asC atj ash asz) 1 (BR N atz ass as_ as0 asP asC atj ash asz) ((cds Pg 127).drop 14) 0 (Mc d_ u_ neg a b b_1 b_2 b_3 b_4 a_1 b_5) (kB false Pg 127 1 c_)=GG N atz ass as_ as0 asP asC atj ash asz neg a b b_1 b_2 b_3 b_4 a_1 b_5 (λr0 r1 r2 r3=>c_ (.ptr 0 0) [⟨153,1,.cells [.bool r0,vws r1,.bool r2,vws r3]⟩]):=by kernel_rfl
theorem anu (d_:List V) (u_:List (Option Blk)) (neg:Bool) (a b:LI) (b_1:Bool) (b_2:LI) (b_3:Bool) (b_4:LI) (n:Int) (c_:KV) (κn_:St->Bool):aQ (Ij N atz ass as_ as0 asP asC atj ash asz) 1 (BR N atz ass as_ as0 asP asC atj ash asz) (sg Pg 127 9 5) 0 (Mf d_ u_ neg a b b_1 b_2 b_3 b_4 n) { (kB false Pg 127 1 c_)with nrm:=κn_ } = (asP a n (λast=>asP b n (λasp=>as0 false asp (λasl=>aj .i64 asl&&asC false asp (λatd=>aj .i64 (atd - 1)&&cond (asl != (atd - 1)) (atj ast asp (λaso=>ass (λs6=>ash aso s6 (λat9=>cond (at9 != 0) (asz ast aso (λs7 s8=>asz asp aso (λs9 s10=>κn_ (Mc (dqs d_ 0 6 (.ptr 2 0::vwu n::(dq d_ 6)::vws aso::dqs d_ 8 27 (vws a::vwu n::vws ast::vws b::vwu n::vws asp::.ptr 2 0::vws asp::.ptr 2 0::.ptr 2 1::.ptr 2 0::vwu asl::vwi asl::.ptr 2 0::vwi atd::vwi (atd - 1)::.bool true::vws ast::vws asp::vws aso::vws aso::vws s6::vwi at9::.bool true::.tup [vws s7,vws s8]::vws ast::vws aso::.tup [vws s7,vws s8]::vws s7::vws s8::.tup [vws s9,vws s10]::vws asp::vws aso::.tup [vws s9,vws s10]::vws s9::vws s10::dqs d_ 71 12 []))) [(u_.getD 0 none),some ⟨151,1,.cells [.bool false,vws asp]⟩] neg a b b_1 b_2 b_3 b_4 s7 s9)))) (κn_ (Mc (dqs d_ 0 6 (.ptr 2 0::vwu n::(dq d_ 6)::vws aso::dqs d_ 8 27 (vws a::vwu n::vws ast::vws b::vwu n::vws asp::.ptr 2 0::vws asp::.ptr 2 0::.ptr 2 1::.ptr 2 0::vwu asl::vwi asl::.ptr 2 0::vwi atd::vwi (atd - 1)::.bool true::vws ast::vws asp::vws aso::vws aso::vws s6::vwi at9::.bool false::dqs d_ 59 24 []))) [(u_.getD 0 none),some ⟨151,1,.cells [.bool false,vws asp]⟩] neg a b b_1 b_2 b_3 b_4 ast asp)))))) (κn_ (Mc (dqs d_ 0 6 (.ptr 2 0::vwu n::dqs d_ 6 29 (vws a::vwu n::vws ast::vws b::vwu n::vws asp::.ptr 2 0::vws asp::.ptr 2 0::.ptr 2 1::.ptr 2 0::vwu asl::vwi asl::.ptr 2 0::vwi atd::vwi (atd - 1)::.bool false::dqs d_ 52 31 []))) [(u_.getD 0 none),some ⟨151,1,.cells [.bool false,vws asp]⟩] neg a b b_1 b_2 b_3 b_4 ast asp))))))):=by kernel_rfl
theorem anH (d_:List V) (u_:List (Option Blk)) (neg:Bool) (a b:LI) (b_1:Bool) (b_2:LI) (b_3:Bool) (b_4:LI) (n:Int) (c_:KV):aQ (Ij N atz ass as_ as0 asP asC atj ash asz) 1 (BR N atz ass as_ as0 asP asC atj ash asz) ((cds Pg 127).drop 9) 0 (Mf d_ u_ neg a b b_1 b_2 b_3 b_4 n) (kB false Pg 127 1 c_)=Uc N atz ass as_ as0 asP asC atj ash asz neg a b b_1 b_2 b_3 b_4 n (λr0 r1 r2 r3=>c_ (.ptr 0 0) [⟨153,1,.cells [.bool r0,vws r1,.bool r2,vws r3]⟩]):=by rw[cY 9 5 14 rfl];refine(anu N atz ass as_ as0 asP asC atj ash asz d_ u_ neg a b b_1 b_2 b_3 b_4 n c_ _).trans ?_;simp only[anE];kernel_rfl
theorem anz (neg:Bool) (a b:LI) (b_1:Bool) (b_2:LI) (b_3:Bool) (b_4:LI) (c_:KV) (κn_:St->Bool):aQ (Ij N atz ass as_ as0 asP asC atj ash asz) 1 (BR N atz ass as_ as0 asP asC atj ash asz) (sg Pg 127 0 9) 0 (st0 Pg 127 (DM.args [.bool neg,.ints a,.ints b,.bool b_1,.ints b_2,.bool b_3,.ints b_4]) [⟨153,1,.cells [.bool b_1,vws b_2,.bool b_3,vws b_4]⟩]) { (kB false Pg 127 1 c_)with nrm:=κn_ } = (cond (((a.length:Nat):Int)==0) (atz false [] b_1 b_2 b_3 b_4 (λcr nsr=>ass (λasj=>as_ false asj cr nsr b_3 b_4 (λasD asy=>c_ (.ptr 0 0) [⟨153,1,.cells [.bool cr,vws nsr,.bool asD,vws asy]⟩])))) (as0 false a (λnr=>as0 false b (λask=>cond (decide (ask<nr)) (κn_ (Mf (vqs 4 (.val (.pointer none)::.ptr 1 0::vwu ask::.any::vws a::.agg [.bool false,vws a]::.ptr 1 0::vws b::.agg [.bool false,vws b]::.ptr 2 0::vws a::vwi ((a.length:Nat):Int)::.bool false::vqs 10 (.ptr 1 0::vwu nr::.ptr 2 0::vwu ask::vwu ask::vwu nr::.bool true::vwu ask::vqs 48 []))) [some ⟨151,1,.cells [.bool false,vws a]⟩] neg a b b_1 b_2 b_3 b_4 ask)) (κn_ (Mf (vqs 4 (.val (.pointer none)::.ptr 1 0::vwu ask::.any::vws a::.agg [.bool false,vws a]::.ptr 1 0::vws b::.agg [.bool false,vws b]::.ptr 2 0::vws a::vwi ((a.length:Nat):Int)::.bool false::vqs 10 (.ptr 1 0::vwu nr::.ptr 2 0::vwu ask::vwu ask::vwu nr::.bool false::vqs 49 []))) [some ⟨151,1,.cells [.bool false,vws a]⟩] neg a b b_1 b_2 b_3 b_4 nr)))))):=by kernel_rfl
theorem anV (neg:Bool) (a b:LI) (b_1:Bool) (b_2:LI) (b_3:Bool) (b_4:LI) (c_:KV):aQ (Ij N atz ass as_ as0 asP asC atj ash asz) 1 (BR N atz ass as_ as0 asP asC atj ash asz) ((cds Pg 127).drop 0) 0 (st0 Pg 127 (DM.args [.bool neg,.ints a,.ints b,.bool b_1,.ints b_2,.bool b_3,.ints b_4]) [⟨153,1,.cells [.bool b_1,vws b_2,.bool b_3,vws b_4]⟩]) (kB false Pg 127 1 c_)=Kl N atz ass as_ as0 asP asC atj ash asz neg a b b_1 b_2 b_3 b_4 (λr0 r1 r2 r3=>c_ (.ptr 0 0) [⟨153,1,.cells [.bool r0,vws r1,.bool r2,vws r3]⟩]):=by rw[cY 0 9 9 rfl];refine(anz N atz ass as_ as0 asP asC atj ash asz neg a b b_1 b_2 b_3 b_4 c_ _).trans ?_;simp only[anH];kernel_rfl
theorem amZ (neg:Bool) (a b:LI) (b_1:Bool) (b_2:LI) (b_3:Bool) (b_4:LI) (c_:KV):qw false (Ij N atz ass as_ as0 asP asC atj ash asz) (BR N atz ass as_ as0 asP asC atj ash asz) 127 (DM.args [.bool neg,.ints a,.ints b,.bool b_1,.ints b_2,.bool b_3,.ints b_4]) [⟨153,1,.cells [.bool b_1,vws b_2,.bool b_3,vws b_4]⟩] c_=Kl N atz ass as_ as0 asP asC atj ash asz neg a b b_1 b_2 b_3 b_4 (λr0 r1 r2 r3=>c_ (.ptr 0 0) [⟨153,1,.cells [.bool r0,vws r1,.bool r2,vws r3]⟩]):=
 (iC (by kernel_rfl)).trans (anV N atz ass as_ as0 asP asC atj ash asz neg a b b_1 b_2 b_3 b_4 c_)
theorem abV (aC6:ab Pg 140 (SW atz)) (axO:ab Pg 143 (CD ass)) (aCA:ab Pg 140 (Wi as_)) (aCp:ab Pg 144 (Wa as0)) (aBQ:ab Pg 145 (M_ asP)) (aBJ:ab Pg 146 (M4 asC)) (aCB:ab Pg 147 (Wj atj)) (azU:ab Pg 148 (GB ash)) (aBO:ab Pg 149 (M9 asz)):ab Pg 127 (XU (Kl N atz ass as_ as0 asP asC atj ash asz)):=by
 refine aT (md:=false) (cx:=(Ij N atz ass as_ as0 asP asC atj ash asz)) (aD (aa (mw aC6 aCA) (aa axO (aa aCp (aa aBQ (aa aBJ (aa aCB (aa azU (aa aBO (ae _))))))))) (by kernel_rfl)) DM (Si (Kl N atz ass as_ as0 asP asC atj ash asz)) (BR N atz ass as_ as0 asP asC atj ash asz) 0 1 (by kernel_rfl) (λi_ hi_=>by omega) ?_;intro a k h;unfold Si at h;split at h;exact⟨[_],rfl,rfl,(amZ _ _ _ _ _ _ _ _ _ _ _ _ _ _ _ _ _ _).trans h⟩;cases h
end
theorem aio (N:Nat) (ayg:GT) (au_:xx) (at7:pQ) (aym:GZ) (ayb:GO) (aDo:ab Pg 141 (XZ ayg)) (aAz:ab Pg 129 (PX au_)) (axN:ab Pg 128 (GC at7)) (aDz:ab Pg 142 (X5 aym)) (aDh:ab Pg 127 (XU ayb)):ab Pg 125 (agU (amy N ayg au_ at7 aym ayb)):=by
 refine ggZ N false (nY (aa aDo (aa aAz (aa axN (aa aDz (aa aDh (ae _)))))) ⟨(fe (by kernel_rfl)),(dk (by kernel_rfl) (dB au_)),(fe (by kernel_rfl)),(fe (by kernel_rfl)),(fe (by kernel_rfl)),trivial⟩) 2 ?_;intro a k h;unfold alR at h;split at h;exact⟨[_,_],rfl,rfl,.trans (by kernel_rfl) h⟩;cases h
def bA:StSh:=⟨(.any::.int .i64::.int .i64::.ptr 1 0::.ptr 2 0::.any::.any::.any::.int .i64::sqs 22 []),[some (146,1,.own 153 RT2),some (153,1,.cells [.bool,.roi .u32,.bool,.roi .u32]),some (126,1,.cells [.int .i64,.int .i64,.slw 0])]⟩
def gB:StSh:=⟨(sqs 31 []),[some (146,1,.own 153 RT2),some (153,1,.cells [.bool,.roi .u32,.bool,.roi .u32])]⟩
section
variable (N:Nat) (as7:A2) (avF:Kv) (avG:Kx)
noncomputable abbrev Up:Cx:=⟨Pg,ao [(108,(Wc as7)),(126,(agQ avF)),(125,(agU avG))],aB,N⟩
def ce:List Atom->K->Bool:=λa_ κ=>match a_ with
 | [.int i_1,.int axu,.int j,.recs t3_ b0,.bool r,.ints r_1,.bool r_2,.ints r_3,.int m,.int m_2]=>RT.cast RT2 t3_ b0 (λb0=>ah N (JG N as7 avF avG i_1 axu r r_1 r_2 r_3 m m_2 (λr0=>κ.ext 0 (gB.build [.recs RT2 r0,.bool r,.ints r_1,.bool r_2,.ints r_3]))) (j,b0)) false
 | _=>false
def Ny:Nat->Option Ann:=λb_=>cond (b_==0) (some ⟨⟨[1,2,3,4,8],[],[],[]⟩,[(0,⟨[],[],[],[]⟩)],some ⟨[],[],[],[]⟩,some (ay [(bA,ce N as7 avF avG)])⟩) (none)
theorem l_ (κ:K) (i_1 axu j:Int) (b0:List RY2) (r:Bool) (r_1:LI) (r_2:Bool) (r_3:LI) (m m_2:Int):rE N (λs k=>dA (Up N as7 avF avG) 2 (Ny N as7 avF avG) (lp Pg 110 0).2 (lp Pg 110 0).1 s (kL Pg 2 ((Ny N as7 avF avG) (lp Pg 110 0).1) κ k)) (bA.build [.int i_1,.int axu,.int j,.recs RT2 b0,.bool r,.ints r_1,.bool r_2,.ints r_3,.int m,.int m_2])=ah N (JG N as7 avF avG i_1 axu r r_1 r_2 r_3 m m_2 (λr0=>κ.ext 0 (gB.build [.recs RT2 r0,.bool r,.ints r_1,.bool r_2,.ints r_3]))) (j,b0):=
 aA (λ(v_:Int × List RY2)=>bA.build [.int i_1,.int axu,.int v_.1,.recs RT2 v_.2,.bool r,.ints r_1,.bool r_2,.ints r_3,.int m,.int m_2]) (λv_ K_=>by obtain⟨j,b0⟩:=v_; kernel_rfl) N (j,b0)
theorem lV:az (Up N as7 avF avG) 2 (Ny N as7 avF avG) (lp Pg 110 0) (bA,ce N as7 avF avG):=by
 intro a κ h;simp only at h;unfold ce at h;split at h
 ·obtain⟨e_,h⟩:=RT.cast_inv h (by decide); subst e_; exact(l_ _ _ _ _ _ _ _ _ _ _ _ _ _ _ _).trans h
 ·cases h
theorem nA:aC (Up N as7 avF avG) 2 (Ny N as7 avF avG) (lp Pg 110 0):=
 au [(bA,ce N as7 avF avG)] (by kernel_rfl) ⟨lV _ _ _ _,trivial⟩
theorem ah2 (aCt:ab Pg 108 (Wc as7)) (aEN:ab Pg 126 (agQ avF)) (aES:ab Pg 125 (agU avG)):ab Pg 110 (agL (ahd N as7 avF avG)):=by
 refine bH (cx:=(Up N as7 avF avG)) (aD (aa aCt (aa aEN (aa aES (ae _)))) (by kernel_rfl)) aey (aga (ahd N as7 avF avG)) (Ny N as7 avF avG) 1 2 (by kernel_rfl) (aJ (nA _ _ _ _)) ?_;intro a k h;unfold aga at h;split at h
 ·obtain⟨e_,h⟩:=RT.cast_inv h (by decide); subst e_; exact⟨[_,_],rfl,rfl,.trans (by kernel_rfl) h⟩
 ·cases h
def ct:StSh:=⟨(.any::.any::.any::.ptr 0 0::.any::.int .i64::.any::.int .i64::sqs 53 []),[some (126,1,.cells [.int .i64,.int .i64,.slw 1]),some (146,1,.own 153 RT2)]⟩
def i6:StSh:=⟨(.any::.any::.int .i64::sqs 58 []),[]⟩
def i9:StSh:=⟨(.any::.any::.any::.ptr 0 0::.any::.int .i64::sqs 55 []),[some (126,1,.cells [.int .i64,.int .i64,.slw 1]),some (146,1,.own 153 RT2)]⟩
end
section
variable (N:Nat) (atU:HF) (as7:A2) (atK:HN) (atS:Hv) (atT:HD)
noncomputable abbrev A6:Cx:=⟨Pg,ao [(107,(agN atU)),(108,(Wc as7)),(109,(ag3 atK)),(111,(agJ atS)),(110,(agL atT))],aB,N⟩
def dF:List Atom->K->Bool:=λa_ κ=>match a_ with
 | [.int c_1,.int j,.int a_2,.int a_3,.recs t4_ axp]=>RT.cast RT2 t4_ axp (λaxp=>ah N (zS N atU as7 atK atS atT c_1 a_2 a_3 axp (λr0=>κ.ret (i6.build [.int r0])) (κ.ext 2 (i9.build [.int c_1,.int a_2,.int a_3,.recs RT2 axp]))) j) false
 | _=>false
def cu:StSh:=⟨(.any::.any::.any::.ptr 0 0::.int .i64::.int .i64::.opt 1 0::.any::.int .i64::sqs 52 []),[some (126,1,.cells [.int .i64,.int .i64,.slw 1]),some (146,1,.own 153 RT2)]⟩
def i7:StSh:=⟨(.any::.any::.any::.ptr 0 0::.int .i64::.int .i64::sqs 55 []),[some (126,1,.cells [.int .i64,.int .i64,.slw 1]),some (146,1,.own 153 RT2)]⟩
def dG:List Atom->K->Bool:=λa_ κ=>match a_ with
 | [.int aw7,.int c_2,.nat d,.int i,.int a_4,.int a_5,.recs t6_ d_1]=>RT.cast RT2 t6_ d_1 (λd_1=>ah N (E3 N atU as7 atK atS atT aw7 c_2 d a_4 a_5 (λr4=>κ.ext 4 (i7.build [.int aw7,.int c_2,.int a_4,.int a_5,.recs RT2 r4]))) (i,d_1)) false
 | _=>false
def co:StSh:=⟨(.any::.any::.any::.ptr 0 0::.int .i64::.int .i64::sqs 55 []),[some (126,1,.cells [.int .i64,.int .i64,.slw 1]),some (146,1,.own 153 RT2)]⟩
def i5:StSh:=⟨(.any::.any::.int .i64::sqs 58 []),[]⟩
def i8:StSh:=⟨(sqs 4 (.int .i64::sqs 56 [])),[]⟩
def dE:List Atom->K->Bool:=λa_ κ=>match a_ with
 | [.int sign,.int c,.int a,.int a_1,.recs t4_ b1]=>RT.cast RT2 t4_ b1 (λb1=>ah N (zR N atU as7 atK atS atT a a_1 (λr0=>κ.ret (i5.build [.int r0])) (λr0=>κ.ext 0 (i8.build [.int r0]))) (sign,c,b1)) false
 | _=>false
def pT:Nat->Option Ann:=λb_=>cond (b_==2) (some ⟨⟨[3,5,7],[],[],[]⟩,[(2,⟨[3,5],[],[],[]⟩)],some ⟨[2],[],[],[]⟩,some (ay [(ct,dF N atU as7 atK atS atT)])⟩) (cond (b_==4) (some ⟨⟨[3,4,5,6,8],[],[],[]⟩,[(4,⟨[3,4,5],[],[],[]⟩)],some ⟨[2],[],[],[]⟩,some (ay [(cu,dG N atU as7 atK atS atT)])⟩) (cond (b_==0) (some ⟨⟨[3,4,5],[],[],[]⟩,[(0,⟨[4],[],[],[]⟩)],some ⟨[2],[],[],[]⟩,some (ay [(co,dE N atU as7 atK atS atT)])⟩) (none)))
theorem oz (κ:K) (c_1 j a_2 a_3:Int) (axp:List RY2):rE N (λs k=>dA (A6 N atU as7 atK atS atT) 0 (pT N atU as7 atK atS atT) (lp Pg 93 1).2 (lp Pg 93 1).1 s (kL Pg 0 ((pT N atU as7 atK atS atT) (lp Pg 93 1).1) κ k)) (ct.build [.int c_1,.int j,.int a_2,.int a_3,.recs RT2 axp])=ah N (zS N atU as7 atK atS atT c_1 a_2 a_3 axp (λr0=>κ.ret (i6.build [.int r0])) (κ.ext 2 (i9.build [.int c_1,.int a_2,.int a_3,.recs RT2 axp]))) j:=
 aA (λv_=>ct.build [.int c_1,.int v_,.int a_2,.int a_3,.recs RT2 axp]) (λv_ K_=>by kernel_rfl) N j
theorem og:az (A6 N atU as7 atK atS atT) 0 (pT N atU as7 atK atS atT) (lp Pg 93 1) (ct,dF N atU as7 atK atS atT):=by
 intro a κ h;simp only at h;unfold dF at h;split at h
 ·obtain⟨e_,h⟩:=RT.cast_inv h (by decide); subst e_; exact(oz _ _ _ _ _ _ _ _ _ _ _ _).trans h
 ·cases h
theorem oA (κ:K) (aw7 c_2:Int) (d:Nat) (i a_4 a_5:Int) (d_1:List RY2):rE N (λs k=>dA (A6 N atU as7 atK atS atT) 0 (pT N atU as7 atK atS atT) (lp Pg 93 2).2 (lp Pg 93 2).1 s (kL Pg 0 ((pT N atU as7 atK atS atT) (lp Pg 93 2).1) κ k)) (cu.build [.int aw7,.int c_2,.nat d,.int i,.int a_4,.int a_5,.recs RT2 d_1])=ah N (E3 N atU as7 atK atS atT aw7 c_2 d a_4 a_5 (λr4=>κ.ext 4 (i7.build [.int aw7,.int c_2,.int a_4,.int a_5,.recs RT2 r4]))) (i,d_1):=
 aA (λ(v_:Int × List RY2)=>cu.build [.int aw7,.int c_2,.nat d,.int v_.1,.int a_4,.int a_5,.recs RT2 v_.2]) (λv_ K_=>by obtain⟨i,d_1⟩:=v_; kernel_rfl) N (i,d_1)
theorem oh:az (A6 N atU as7 atK atS atT) 0 (pT N atU as7 atK atS atT) (lp Pg 93 2) (cu,dG N atU as7 atK atS atT):=by
 intro a κ h;simp only at h;unfold dG at h;split at h
 ·obtain⟨e_,h⟩:=RT.cast_inv h (by decide); subst e_; exact(oA _ _ _ _ _ _ _ _ _ _ _ _ _ _).trans h
 ·cases h
theorem oy (κ:K) (sign c a a_1:Int) (b1:List RY2):rE N (λs k=>dA (A6 N atU as7 atK atS atT) 0 (pT N atU as7 atK atS atT) (lp Pg 93 0).2 (lp Pg 93 0).1 s (kL Pg 0 ((pT N atU as7 atK atS atT) (lp Pg 93 0).1) κ k)) (co.build [.int sign,.int c,.int a,.int a_1,.recs RT2 b1])=ah N (zR N atU as7 atK atS atT a a_1 (λr0=>κ.ret (i5.build [.int r0])) (λr0=>κ.ext 0 (i8.build [.int r0]))) (sign,c,b1):=
 aA (λ(v_:Int × Int × List RY2)=>co.build [.int v_.1,.int v_.2.1,.int a,.int a_1,.recs RT2 v_.2.2]) (λv_ K_=>by obtain⟨sign,c,b1⟩:=v_; kernel_rfl) N (sign,c,b1)
theorem oe:az (A6 N atU as7 atK atS atT) 0 (pT N atU as7 atK atS atT) (lp Pg 93 0) (co,dE N atU as7 atK atS atT):=by
 intro a κ h;simp only at h;unfold dE at h;split at h
 ·obtain⟨e_,h⟩:=RT.cast_inv h (by decide); subst e_; exact(oy _ _ _ _ _ _ _ _ _ _ _ _).trans h
 ·cases h
theorem qM:aC (A6 N atU as7 atK atS atT) 0 (pT N atU as7 atK atS atT) (lp Pg 93 1):=
 au [(ct,dF N atU as7 atK atS atT)] (by kernel_rfl) ⟨og _ _ _ _ _ _,trivial⟩
theorem qN:aC (A6 N atU as7 atK atS atT) 0 (pT N atU as7 atK atS atT) (lp Pg 93 2):=
 au [(cu,dG N atU as7 atK atS atT)] (by kernel_rfl) ⟨oh _ _ _ _ _ _,trivial⟩
theorem qL:aC (A6 N atU as7 atK atS atT) 0 (pT N atU as7 atK atS atT) (lp Pg 93 0):=
 au [(co,dE N atU as7 atK atS atT)] (by kernel_rfl) ⟨oe _ _ _ _ _ _,trivial⟩
theorem ack (aEK:ab Pg 107 (agN atU)) (aCt:ab Pg 108 (Wc as7)) (aE3:ab Pg 109 (ag3 atK)) (aEF:ab Pg 111 (agJ atS)) (aEH:ab Pg 110 (agL atT)):ab Pg 93 (X7 (TX N atU as7 atK atS atT)):=by
 refine bH (cx:=(A6 N atU as7 atK atS atT)) (aD (aa aEK (aa aCt (aa aE3 (aa aEF (aa aEH (ae _)))))) (by kernel_rfl)) VF (Sq (TX N atU as7 atK atS atT)) (pT N atU as7 atK atS atT) 3 0 (by kernel_rfl) (λi_ hi_=>by
  match i_,hi_ with
  | 0,_=>exact qL _ _ _ _ _ _
  | 1,_=>exact qM _ _ _ _ _ _
  | 2,_=>exact qN _ _ _ _ _ _
  | (q+3),h=>omega) ?_
 intro a k h;unfold Sq at h;split at h
 ·obtain⟨e_,h⟩:=RT.cast_inv h (by decide); subst e_; exact⟨[],rfl,rfl,.trans (by kernel_rfl) h⟩
 ·cases h
end
theorem acr (N:Nat) (ayM:Ht) (ayo:G2) (aEe:ab Pg 92 (Yy ayM)) (aDB:ab Pg 93 (X7 ayo)):ab Pg 67 (Yb (Zm N ayM ayo)):=by
 refine gfV N (aa aEe (aa aDB (ae _))) 0 ?_;intro a k h;unfold afv at h;split at h;exact⟨[],rfl,rfl,.trans (by kernel_rfl) h⟩;cases h
theorem ahU (N:Nat) (ayN:Hu) (ayt:G7) (aEf:ab Pg 66 (Yz ayN)) (aDG:ab Pg 67 (Yb ayt)):ab Pg 24 (Wb (amj N ayN ayt)):=by
 refine gfV N (aa aEf (aa aDG (ae _))) 0 ?_;intro a k h;unfold alB at h;split at h;exact⟨[],rfl,rfl,.trans (by kernel_rfl) h⟩;cases h
theorem ahX (N:Nat) (avA:E_) (aCr:ab Pg 29 (Yo avA)):ab Pg 54 (agK (amm N avA)):=by
 refine gfV N (aa aCr (ae _)) 1 ?_;intro a k h;unfold alE at h;split at h;exact⟨[_],rfl,rfl,.trans (by kernel_rfl) h⟩;cases h
def fG:StSh:=⟨(.any::.ptr 0 0::.any::.any::.any::.ptr 1 0::.flt::sqs 10 (.int .i64::.int .i64::sqs 17 [])),[some (30,1,.cells [.rof,.int .i64,.int .i64,.rof]),some (89,1,.cells [.bool])]⟩
def rO:StSh:=⟨(sqs 5 (.ptr 0 0::.flt::sqs 29 [])),[some (89,1,.cells [.bool])]⟩
section
variable (N:Nat) (auY:CJ) (at1:CQ) (av6:Ku)
noncomputable abbrev aaX:Cx:=⟨Pg,ao [(24,(Wb auY)),(55,(Wh at1)),(54,(agK av6))],aB,N⟩
def fv:List Atom->K->Bool:=λa_ κ=>match a_ with
 | [.fl x,.int t17,.int t18,.fls t,.int t_4,.int t_5,.fls t_6,.bool s]=>ah N (pe N auY at1 av6 t17 t t_4 t_5 t_6 (λr0 r1=>κ.ext 0 (rO.build [.fl r0,.bool r1]))) (x,t18,s)
 | _=>false
def Qr:Nat->Option Ann:=λb_=>cond (b_==0) (some ⟨⟨[1,5,6,17,18],[],[],[]⟩,[(0,⟨[5,6],[],[],[]⟩)],some ⟨[2,3],[],[],[]⟩,some (ay [(fG,fv N auY at1 av6)])⟩) (none)
theorem rz:az (aaX N auY at1 av6) 0 (Qr N auY at1 av6) (lp Pg 31 0) (fG,fv N auY at1 av6):=by
 intro a κ h;simp only at h;unfold fv at h;split at h
 ·rename_i x t17 t18 t t_4 t_5 t_6 s;exact .trans (aA (λ(v_:Fl × Int × Bool)=>fG.build [.fl v_.1,.int t17,.int v_.2.1,.fls t,.int t_4,.int t_5,.fls t_6,.bool v_.2.2]) (λv_ K_=>by obtain⟨x,t18,s⟩:=v_; kernel_rfl) N (x,t18,s)) h
 ·cases h
theorem vn:aC (aaX N auY at1 av6) 0 (Qr N auY at1 av6) (lp Pg 31 0):=
 au [(fG,fv N auY at1 av6)] (by kernel_rfl) ⟨rz _ _ _ _,trivial⟩
theorem acV (aCq:ab Pg 24 (Wb auY)) (aCv:ab Pg 55 (Wh at1)) (aEG:ab Pg 54 (agK av6)):ab Pg 31 (TB (T5 N auY at1 av6)):=by
 refine bH (cx:=(aaX N auY at1 av6)) (aD (aa aCq (aa aCv (aa aEG (ae _)))) (by kernel_rfl)) VO (SF (T5 N auY at1 av6)) (Qr N auY at1 av6) 1 0 (by kernel_rfl) (aJ (vn _ _ _ _)) ?_;intro a k h;unfold SF at h;split at h;exact⟨[],rfl,rfl,.trans (by kernel_rfl) h⟩;cases h
end
theorem ann (N:Nat) (avn:wH) (aAc:ab Pg 40 (TI avn)):ab Pg 13 (FQ3 (GQ3 N avn)):=by
 refine gfV N (aa aAc (ae _)) 0 ?_;intro a k h;unfold aq6 at h;split at h;exact⟨[],rfl,rfl,.trans (by kernel_rfl) h⟩;cases h
theorem Et (N:Nat) (as2:rT) (aAB:ab Pg 72 (PY as2)):ab Pg 76 (qk (A1 N as2)):=by
 refine gfV N (aa aAB (ae _)) 0 ?_;intro a k h;unfold zP at h;split at h;exact⟨[],rfl,rfl,.trans (by kernel_rfl) h⟩;cases h
theorem F5 (N:Nat):ab Pg 60 (r_ (CF N)):=by
 refine gfV N (ae _) 0 ?_;intro a k h;unfold Bh at h;split at h;exact⟨[],rfl,rfl,.trans (by kernel_rfl) h⟩;cases h
theorem acL (N:Nat) (awf:yB) (aCe:ab Pg 105 (Lv awf)):ab Pg 91 (M3 (akX N awf)):=by
 refine gfV N (aa aCe (ae _)) 0 ?_;intro a k h;unfold afH at h;split at h;exact⟨[],rfl,rfl,.trans (by kernel_rfl) h⟩;cases h
theorem abB (N:Nat) (avy:wF) (aAa:ab Pg 91 (M3 avy)):ab Pg 64 (Kf (akS N avy)):=by
 refine gfV N (aa aAa (ae _)) 1 ?_;intro a k h;unfold R8 at h;split at h;exact⟨[_],rfl,rfl,.trans (by kernel_rfl) h⟩;cases h
theorem abR (N:Nat) (aua:wA) (aBs:ab Pg 64 (Kf aua)):ab Pg 79 (MW (akT N aua)):=by
 refine ggV N (nY (aa aBs (ae _)) ⟨(dk (by kernel_rfl) (mb aua)),trivial⟩) 1 ?_;intro a k h;unfold Sd at h;split at h;exact⟨[_],rfl,rfl,.trans (by kernel_rfl) h⟩;cases h
def dI:StSh:=⟨(.ptr 0 0::.any::.rof::sqs 4 (.flt::.any::.any::.rof::.int .i64::.int .i64::sqs 17 [])),[some (85,1,.cells [.bool,.rof,.int .i64,.int .i64,.rof,.rof,.flt,.flt,.nil,.nil,.flt])]⟩
def om:StSh:=⟨(sqs 7 (.flt::sqs 22 [])),[some (85,1,.cells [.bool,.rof,.int .i64,.int .i64,.rof,.rof,.flt,.flt,.nil,.nil,.flt])]⟩
section
variable (N:Nat) (auK:Bt) (aua:wA)
noncomputable abbrev aaY:Cx:=⟨Pg,ao [(79,(MW auK)),(64,(Kf aua))],aB,N⟩
def dD:List Atom->K->Bool:=λa_ κ=>match a_ with
 | [.fls asW,.fl t,.fls t10,.int t11,.int t12,.bool s,.fls s_1,.int s_2,.int s_3,.fls s_4,.fls s_5,.fl s_6,.fl s_7,.fl s_8]=>ah N (rX N auK aua asW t10 t11 s_1 s_2 s_3 s_4 s_5 s_6 s_7 s_8 (λr0 r1=>κ.ext 0 (om.build [.fl r0,.bool r1,.fls s_1,.int s_2,.int s_3,.fls s_4,.fls s_5,.fl s_6,.fl s_7,.fl s_8]))) (t,t12,s)
 | _=>false
def Qg:Nat->Option Ann:=λb_=>cond (b_==0) (some ⟨⟨[0,2,7,10,11,12],[],[],[]⟩,[(0,⟨[7],[],[],[]⟩)],some ⟨[6],[],[],[]⟩,some (ay [(dI,dD N auK aua)])⟩) (none)
theorem od:az (aaY N auK aua) 1 (Qg N auK aua) (lp Pg 59 0) (dI,dD N auK aua):=by
 intro a κ h;simp only at h;unfold dD at h;split at h
 ·rename_i asW t t10 t11 t12 s s_1 s_2 s_3 s_4 s_5 s_6 s_7 s_8;exact .trans (aA (λ(v_:Fl × Int × Bool)=>dI.build [.fls asW,.fl v_.1,.fls t10,.int t11,.int v_.2.1,.bool v_.2.2,.fls s_1,.int s_2,.int s_3,.fls s_4,.fls s_5,.fl s_6,.fl s_7,.fl s_8]) (λv_ K_=>by obtain⟨t,t12,s⟩:=v_; kernel_rfl) N (t,t12,s)) h
 ·cases h
theorem qK:aC (aaY N auK aua) 1 (Qg N auK aua) (lp Pg 59 0):=
 au [(dI,dD N auK aua)] (by kernel_rfl) ⟨od _ _ _,trivial⟩
theorem abL (aDe:ab Pg 79 (MW auK)) (aBs:ab Pg 64 (Kf aua)):ab Pg 59 (MV (YY N auK aua)):=by
 refine bH (cx:=(aaY N auK aua)) (nY (aa aDe (aa aBs (ae _))) ⟨(dk (by kernel_rfl) (sk auK)),(dk (by kernel_rfl) (mb aua)),trivial⟩) Ms (MC (YY N auK aua)) (Qg N auK aua) 1 1 (by kernel_rfl) (aJ (qK _ _ _)) ?_;intro a k h;unfold MC at h;split at h;exact⟨[_],rfl,rfl,.trans (by kernel_rfl) h⟩;cases h
end
theorem anp (N:Nat) (avy:wF) (aAa:ab Pg 91 (M3 avy)):ab Pg 64 (FQ6 (GQ6 N avy)):=by
 refine gfV N (aa aAa (ae _)) 2 ?_;intro a k h;unfold aoK at h;split at h;exact⟨[_,_],rfl,rfl,.trans (by kernel_rfl) h⟩;cases h
theorem aik (N:Nat) (SQ6:uW) (hQ6:ab Pg 64 (FQ6 SQ6)):ab Pg 79 (Wg (aoV N SQ6)):=by
 refine ggV N (nY (aa hQ6 (ae _)) ⟨(dk (by kernel_rfl) (dC SQ6)),trivial⟩) 2 ?_;intro a k h;unfold agl at h;split at h;exact⟨[_,_],rfl,rfl,.trans (by kernel_rfl) h⟩;cases h
def dn:StSh:=⟨(.ptr 0 0::.any::.rof::sqs 4 (.flt::.any::.any::.rof::.int .i64::.int .i64::sqs 17 [])),[some (85,1,.cells [.bool,.rof,.int .i64,.int .i64,.rof,.rof,.flt,.flt,.slw 1,.nil,.flt]),some (33,1,.flts)]⟩
def nS:StSh:=⟨(sqs 7 (.flt::sqs 22 [])),[some (85,1,.cells [.bool,.rof,.int .i64,.int .i64,.rof,.rof,.flt,.flt,.slw 1,.nil,.flt]),some (33,1,.flts)]⟩
section
variable (N:Nat) (auk:CO) (SQ6:uW)
noncomputable abbrev KH:Cx:=⟨Pg,ao [(79,(Wg auk)),(64,(FQ6 SQ6))],aB,N⟩
def dm:List Atom->K->Bool:=λa_ κ=>match a_ with
 | [.fls auh,.fl t,.fls t10,.int t11,.int t12,.bool s,.fls s_1,.int s_2,.int s_3,.fls s_4,.fls s_5,.fl s_6,.fl s_7,.fl s_8,.fls b1]=>ah N (q7 N auk SQ6 auh t10 t11 s_1 s_2 s_3 s_4 s_5 s_6 s_7 s_8 b1 (λr0 r1=>κ.ext 0 (nS.build [.fl r0,.bool r1,.fls s_1,.int s_2,.int s_3,.fls s_4,.fls s_5,.fl s_6,.fl s_7,.fl s_8,.fls b1]))) (t,t12,s)
 | _=>false
def aal:Nat->Option Ann:=λb_=>cond (b_==0) (some ⟨⟨[0,2,7,10,11,12],[],[],[]⟩,[(0,⟨[7],[],[],[]⟩)],some ⟨[6],[],[],[]⟩,some (ay [(dn,dm N auk SQ6)])⟩) (none)
theorem nQ:az (KH N auk SQ6) 2 (aal N auk SQ6) (lp Pg 59 0) (dn,dm N auk SQ6):=by
 intro a κ h;simp only at h;unfold dm at h;split at h
 ·rename_i auh t t10 t11 t12 s s_1 s_2 s_3 s_4 s_5 s_6 s_7 s_8 b1;exact .trans (aA (λ(v_:Fl × Int × Bool)=>dn.build [.fls auh,.fl v_.1,.fls t10,.int t11,.int v_.2.1,.bool v_.2.2,.fls s_1,.int s_2,.int s_3,.fls s_4,.fls s_5,.fl s_6,.fl s_7,.fl s_8,.fls b1]) (λv_ K_=>by obtain⟨t,t12,s⟩:=v_; kernel_rfl) N (t,t12,s)) h
 ·cases h
theorem p9:aC (KH N auk SQ6) 2 (aal N auk SQ6) (lp Pg 59 0):=
 au [(dn,dm N auk SQ6)] (by kernel_rfl) ⟨nQ _ _ _,trivial⟩
theorem aiS (aCu:ab Pg 79 (Wg auk)) (hQ6:ab Pg 64 (FQ6 SQ6)):ab Pg 59 (YO (amO N auk SQ6)):=by
 refine bH (cx:=(KH N auk SQ6)) (nY (aa aCu (aa hQ6 (ae _))) ⟨(dk (by kernel_rfl) (kV auk)),(dk (by kernel_rfl) (dC SQ6)),trivial⟩) RY (VZ (amO N auk SQ6)) (aal N auk SQ6) 1 2 (by kernel_rfl) (aJ (p9 _ _ _)) ?_;intro a k h;unfold VZ at h;split at h;exact⟨[_,_],rfl,rfl,.trans (by kernel_rfl) h⟩;cases h
def cQ:StSh:=⟨(.ptr 0 0::.any::.slw 1::sqs 4 (.flt::.any::.any::.rof::.int .i64::.int .i64::sqs 17 [])),[some (85,1,.cells [.bool,.rof,.int .i64,.int .i64,.rof,.rof,.flt,.flt,.slw 1,.nil,.flt]),some (33,1,.flts)]⟩
def nc:StSh:=⟨(sqs 7 (.flt::sqs 22 [])),[some (85,1,.cells [.bool,.rof,.int .i64,.int .i64,.rof,.rof,.flt,.flt,.slw 1,.nil,.flt]),some (33,1,.flts)]⟩
def cM:List Atom->K->Bool:=λa_ κ=>match a_ with
 | [.fl t,.fls t10,.int t11,.int t12,.bool s,.fls s_1,.int s_2,.int s_3,.fls s_4,.fls s_5,.fl s_6,.fl s_7,.fl s_8,.fls asW]=>ah N (agD N auk SQ6 t10 t11 s_1 s_2 s_3 s_4 s_5 s_6 s_7 s_8 asW (λr0 r1=>κ.ext 0 (nc.build [.fl r0,.bool r1,.fls s_1,.int s_2,.int s_3,.fls s_4,.fls s_5,.fl s_6,.fl s_7,.fl s_8,.fls asW]))) (t,t12,s)
 | _=>false
def aai:Nat->Option Ann:=λb_=>cond (b_==0) (some ⟨⟨[0,2,7,10,11,12],[],[],[]⟩,[(0,⟨[7],[],[],[]⟩)],some ⟨[6],[],[],[]⟩,some (ay [(cQ,cM N auk SQ6)])⟩) (none)
theorem mZ:az (KH N auk SQ6) 2 (aai N auk SQ6) (lp Pg 59 0) (cQ,cM N auk SQ6):=by
 intro a κ h;simp only at h;unfold cM at h;split at h
 ·rename_i t t10 t11 t12 s s_1 s_2 s_3 s_4 s_5 s_6 s_7 s_8 asW;exact .trans (aA (λ(v_:Fl × Int × Bool)=>cQ.build [.fl v_.1,.fls t10,.int t11,.int v_.2.1,.bool v_.2.2,.fls s_1,.int s_2,.int s_3,.fls s_4,.fls s_5,.fl s_6,.fl s_7,.fl s_8,.fls asW]) (λv_ K_=>by obtain⟨t,t12,s⟩:=v_; kernel_rfl) N (t,t12,s)) h
 ·cases h
theorem oK:aC (KH N auk SQ6) 2 (aai N auk SQ6) (lp Pg 59 0):=
 au [(cQ,cM N auk SQ6)] (by kernel_rfl) ⟨mZ _ _ _,trivial⟩
theorem aiK (aCu:ab Pg 79 (Wg auk)) (hQ6:ab Pg 64 (FQ6 SQ6)):ab Pg 59 (YN (amJ N auk SQ6)):=by
 refine bH (cx:=(KH N auk SQ6)) (nY (aa aCu (aa hQ6 (ae _))) ⟨(dk (by kernel_rfl) (kV auk)),(dk (by kernel_rfl) (dC SQ6)),trivial⟩) aeP (VY (amJ N auk SQ6)) (aai N auk SQ6) 1 2 (by kernel_rfl) (aJ (oK _ _ _)) ?_;intro a k h;unfold VY at h;split at h;exact⟨[_,_],rfl,rfl,.trans (by kernel_rfl) h⟩;cases h
end
theorem abz (N:Nat):ab Pg 77 (MU (akR N)):=by
 refine gfV N (ae _) 2 ?_;intro a k h;unfold R7 at h;split at h;exact⟨[_,_],rfl,rfl,.trans (by kernel_rfl) h⟩;cases h
def iB:StSh:=⟨(.any::.rof::.flt::.ptr 0 0::sqs 6 (.ptr 1 0::sqs 22 (.int .i64::.int .i64::sqs 64 []))),[some (30,1,.cells [.rof,.int .i64,.int .i64,.rof]),some (85,1,.cells [.bool,.rof,.int .i64,.int .i64,.rof,.rof,.flt,.flt,.slw 2,.nil,.flt]),some (33,1,.flts)]⟩
def wo:StSh:=⟨(.any::.rof::.flt::.ptr 0 0::sqs 6 (.ptr 1 0::sqs 88 [])),[some (30,1,.cells [.rof,.int .i64,.int .i64,.rof]),some (85,1,.cells [.bool,.rof,.int .i64,.int .i64,.rof,.rof,.flt,.flt,.slw 2,.nil,.flt]),some (33,1,.flts)]⟩
section
variable (N:Nat) (asd:bX) (asx:ka) (asH:lj) (auS:Bs) (avH:HQ) (avO:HL) (SQ6:uW) (auJ:Bl)
noncomputable abbrev aaZ:Cx:=⟨Pg,ao [(32,(gM asd)),(76,(qk asx)),(60,(r_ asH)),(59,(EP (MV auS) (EP (YO avH) (YN avO) RY) Ms)),(64,(FQ6 SQ6)),(77,(MU auJ))],aB,N⟩
def iw:List Atom->K->Bool:=λa_ κ=>match a_ with
 | [.fls h_2,.fl r_2,.int aAo,.int axS,.fls s_7,.int s_8,.int s_9,.fls azi,.bool u_9,.fls auH,.int avx,.int av4,.fls awl,.fls avw,.fl awb,.fl avN,.fl avk,.fls b2]=>ah N (rY N asd asx asH auS avH avO SQ6 auJ h_2 r_2 aAo s_7 s_8 s_9 azi auH avx av4 awl avw awb avN avk (λr6 r15=>κ.ext 0 (wo.build [.fls h_2,.fl r_2,.fls s_7,.int s_8,.int s_9,.fls azi,.bool r6,.fls auH,.int avx,.int av4,.fls awl,.fls avw,.fl awb,.fl avN,.fl avk,.fls r15]))) (axS,u_9,b2)
 | _=>false
def ow:Nat->Option Ann:=λb_=>cond (b_==0) (some ⟨⟨[1,2,3,10,33,34],[(10,some 8,66)],[],[]⟩,[(0,⟨[1,2,3,10],[],[],[]⟩)],some ⟨[6,7],[],[],[]⟩,some (ay [(iB,iw N asd asx asH auS avH avO SQ6 auJ)])⟩) (none)
theorem vT:az (aaZ N asd asx asH auS avH avO SQ6 auJ) 0 (ow N asd asx asH auS avH avO SQ6 auJ) (lp Pg 37 0) (iB,iw N asd asx asH auS avH avO SQ6 auJ):=by
 intro a κ h;simp only at h;unfold iw at h;split at h
 ·rename_i h_2 r_2 aAo axS s_7 s_8 s_9 azi u_9 auH avx av4 awl avw awb avN avk b2;exact .trans (aA (λ(v_:Int × Bool × LF)=>iB.build [.fls h_2,.fl r_2,.int aAo,.int v_.1,.fls s_7,.int s_8,.int s_9,.fls azi,.bool v_.2.1,.fls auH,.int avx,.int av4,.fls awl,.fls avw,.fl awb,.fl avN,.fl avk,.fls v_.2.2]) (λv_ K_=>by obtain⟨axS,u_9,b2⟩:=v_; kernel_rfl) N (axS,u_9,b2)) h
 ·cases h
theorem AO:aC (aaZ N asd asx asH auS avH avO SQ6 auJ) 0 (ow N asd asx asH auS avH avO SQ6 auJ) (lp Pg 37 0):=
 au [(iB,iw N asd asx asH auS avH avO SQ6 auJ)] (by kernel_rfl) ⟨vT _ _ _ _ _ _ _ _ _,trivial⟩
theorem AE (aud:ab Pg 32 (gM asd)) (azo:ab Pg 76 (qk asx)) (azZ:ab Pg 60 (r_ asH)) (aDa:ab Pg 59 (MV auS)) (aE7:ab Pg 59 (YO avH)) (aE1:ab Pg 59 (YN avO)) (hQ6:ab Pg 64 (FQ6 SQ6)) (aC4:ab Pg 77 (MU auJ)):ab Pg 37 (mq (pL N asd asx asH auS avH avO SQ6 auJ)):=by
 refine bH (cx:=(aaZ N asd asx asH auS avH avO SQ6 auJ)) (nY (aa aud (aa azo (aa azZ (aa (mw aDa (mw aE7 aE1)) (aa hQ6 (aa aC4 (ae _))))))) ⟨(fe (by kernel_rfl)),(fe (by kernel_rfl)),(fe (by kernel_rfl)),(dk (by kernel_rfl) (abi (sj auS) (abi (rf avH) (pV avO)))),(dk (by kernel_rfl) (dC SQ6)),(dk (by kernel_rfl) (qB auJ)),trivial⟩) tX (o5 (pL N asd asx asH auS avH avO SQ6 auJ)) (ow N asd asx asH auS avH avO SQ6 auJ) 1 0 (by kernel_rfl) (aJ (AO _ _ _ _ _ _ _ _ _)) ?_;intro a k h;unfold o5 at h;split at h;exact⟨[],rfl,rfl,.trans (by kernel_rfl) h⟩;cases h
end
theorem anm (N:Nat) (avy:wF) (aAa:ab Pg 91 (M3 avy)):ab Pg 64 (FQ2 (GQ2 N avy)):=by
 refine gfV N (aa aAa (ae _)) 3 ?_;intro a k h;unfold aoJ at h;split at h;exact⟨[_,_,_],rfl,rfl,.trans (by kernel_rfl) h⟩;cases h
theorem anl (N:Nat) (SQ2:sa) (hQ2:ab Pg 64 (FQ2 SQ2)):ab Pg 79 (FQ1 (GQ1 N SQ2)):=by
 refine ggV N (nY (aa hQ2 (ae _)) ⟨(dk (by kernel_rfl) (bZ SQ2)),trivial⟩) 3 ?_;intro a k h;unfold aoI at h;split at h;exact⟨[_,_,_],rfl,rfl,.trans (by kernel_rfl) h⟩;cases h
theorem pY (N:Nat):ab Pg 42 (fa (lA N)):=by
 refine gfV N (ae _) 3 ?_;intro a k h;unfold k9 at h;split at h;exact⟨[_,_,_],rfl,rfl,.trans (by kernel_rfl) h⟩;cases h
theorem Dd (N:Nat):ab Pg 60 (l5 (ym N)):=by
 refine gfV N (ae _) 1 ?_;intro a k h;unfold xL at h;split at h;exact⟨[_],rfl,rfl,.trans (by kernel_rfl) h⟩;cases h
def kT:StSh:=⟨(.any::.int .i64::.ptr 0 0::.any::.any::.slw 1::sqs 5 (.int .i64::.int .i64::sqs 17 [])),[some (28,1,.cells [.int .i64,.int .i64,.rof]),some (33,1,.flts)]⟩
def A0:StSh:=⟨(sqs 5 (.slw 0::sqs 24 [])),[some (33,1,.flts)]⟩
def kK (N:Nat):List Atom->K->Bool:=λa_ κ=>match a_ with
 | [.int j_1,.int t11,.int t12,.int m,.int m_3,.fls m_4,.fls out]=>ah N (xP N j_1 t11 m m_3 m_4 (λr0=>κ.ext 0 (A0.build [.fls r0]))) (t12,out)
 | _=>false
def uX (N:Nat):Nat->Option Ann:=λb_=>cond (b_==0) (some ⟨⟨[1,2,5,11,12],[],[],[]⟩,[(0,⟨[5],[],[],[]⟩)],some ⟨[4],[],[],[]⟩,some (ay [(kT,kK N)])⟩) (none)
theorem AM (N:Nat):az ⟨Pg,ao [],aB,N⟩ 0 (uX N) (lp Pg 90 0) (kT,kK N):=by
 intro a κ h;simp only at h;unfold kK at h;split at h
 ·rename_i j_1 t11 t12 m m_3 m_4 out;exact .trans (aA (λ(v_:Int × LF)=>kT.build [.int j_1,.int t11,.int v_.1,.int m,.int m_3,.fls m_4,.fls v_.2]) (λv_ K_=>by obtain⟨t12,out⟩:=v_; kernel_rfl) N (t12,out)) h
 ·cases h
theorem Gb (N:Nat):aC ⟨Pg,ao [],aB,N⟩ 0 (uX N) (lp Pg 90 0):=
 au [(kT,kK N)] (by kernel_rfl) ⟨AM _,trivial⟩
theorem F4 (N:Nat):ab Pg 90 (rZ (ww N)):=by
 refine bH (cx:=⟨Pg,ao [],aB,N⟩) (aD (ae _) (by kernel_rfl)) zO (vt (ww N)) (uX N) 1 0 (by kernel_rfl) (aJ (Gb _)) ?_;intro a k h;unfold vt at h;split at h;exact⟨[],rfl,rfl,.trans (by kernel_rfl) h⟩;cases h
def cj:StSh:=⟨(.ptr 0 0::.any::.slw 2::sqs 4 (.flt::.any::.any::.sl 1::.int .i64::.int .i64::sqs 17 [])),[some (85,1,.cells [.bool,.rof,.int .i64,.int .i64,.rof,.rof,.flt,.flt,.slw 3,.slw 4,.flt]),some (33,1,.flts),some (33,1,.flts),some (33,1,.flts),some (33,1,.flts)]⟩
def lZ:StSh:=⟨(sqs 7 (.flt::sqs 22 [])),[some (85,1,.cells [.bool,.rof,.int .i64,.int .i64,.rof,.rof,.flt,.flt,.slw 3,.slw 4,.flt]),some (33,1,.flts),some (33,1,.flts),some (33,1,.flts),some (33,1,.flts)]⟩
section
variable (N:Nat) (SQ1:um) (SQ2:sa)
noncomputable abbrev aa0:Cx:=⟨Pg,ao [(79,(FQ1 SQ1)),(64,(FQ2 SQ2))],aB,N⟩
def ca:List Atom->K->Bool:=λa_ κ=>match a_ with
 | [.fl t,.nat t10,.nat avg,.int t11,.int t12,.bool s,.fls s_1,.int s_2,.int s_3,.fls s_4,.fls s_5,.fl s_6,.fl s_7,.fl s_8,.fls avb,.fls avt,.fls b3,.fls b4]=>ah N (agC N SQ1 SQ2 t10 avg t11 s_1 s_2 s_3 s_4 s_5 s_6 s_7 s_8 avb avt b3 b4 (λr0 r1=>κ.ext 0 (lZ.build [.fl r0,.bool r1,.fls s_1,.int s_2,.int s_3,.fls s_4,.fls s_5,.fl s_6,.fl s_7,.fl s_8,.fls avb,.fls avt,.fls b3,.fls b4]))) (t,t12,s)
 | _=>false
def Z_:Nat->Option Ann:=λb_=>cond (b_==0) (some ⟨⟨[0,2,7,10,11,12],[],[],[]⟩,[(0,⟨[7],[],[],[]⟩)],some ⟨[6],[],[],[]⟩,some (ay [(cj,ca N SQ1 SQ2)])⟩) (none)
theorem lS:az (aa0 N SQ1 SQ2) 5 (Z_ N SQ1 SQ2) (lp Pg 59 0) (cj,ca N SQ1 SQ2):=by
 intro a κ h;simp only at h;unfold ca at h;split at h
 ·rename_i t t10 avg t11 t12 s s_1 s_2 s_3 s_4 s_5 s_6 s_7 s_8 avb avt b3 b4;exact .trans (aA (λ(v_:Fl × Int × Bool)=>cj.build [.fl v_.1,.nat t10,.nat avg,.int t11,.int v_.2.1,.bool v_.2.2,.fls s_1,.int s_2,.int s_3,.fls s_4,.fls s_5,.fl s_6,.fl s_7,.fl s_8,.fls avb,.fls avt,.fls b3,.fls b4]) (λv_ K_=>by obtain⟨t,t12,s⟩:=v_; kernel_rfl) N (t,t12,s)) h
 ·cases h
theorem nx:aC (aa0 N SQ1 SQ2) 5 (Z_ N SQ1 SQ2) (lp Pg 59 0):=
 au [(cj,ca N SQ1 SQ2)] (by kernel_rfl) ⟨lS _ _ _,trivial⟩
theorem ah9 (hQ1:ab Pg 79 (FQ1 SQ1)) (hQ2:ab Pg 64 (FQ2 SQ2)):ab Pg 59 (YI (ams N SQ1 SQ2)):=by
 refine bH (cx:=(aa0 N SQ1 SQ2)) (nY (aa hQ1 (aa hQ2 (ae _))) ⟨(dk (by kernel_rfl) (cT SQ1)),(dk (by kernel_rfl) (bZ SQ2)),trivial⟩) aeB (VX (ams N SQ1 SQ2)) (Z_ N SQ1 SQ2) 1 5 (by kernel_rfl) (aJ (nx _ _ _)) ?_;intro a k h;unfold VX at h;split at h;exact⟨[_,_,_,_,_],rfl,rfl,.trans (by kernel_rfl) h⟩;cases h
end
def dh:StSh:=⟨(.ptr 0 0::.any::.any::.any::.ptr 4 0::.ptr 5 0::.ptr 6 0::.ptr 7 0::.int .i64::sqs 7 (.int .i64::.int .i64::.any::.any::.any::.int .i64::.int .i64::sqs 18 [])),[some (85,1,.cells [.bool,.rof,.int .i64,.int .i64,.rof,.rof,.flt,.flt,.slw 2,.slw 3,.flt]),some (33,1,.flts),some (33,1,.flts),some (33,1,.flts),some (28,1,.cells [.int .i64,.int .i64,.slw 1]),some (28,1,.cells [.int .i64,.int .i64,.rof]),some (28,1,.cells [.int .i64,.int .i64,.nil]),some (28,1,.cells [.int .i64,.int .i64,.slw 8]),some (33,1,.flts)]⟩
def nG:StSh:=⟨(.ptr 0 0::.any::.any::.any::.ptr 4 0::.ptr 5 0::.ptr 6 0::.ptr 7 0::sqs 8 (.int .i64::.int .i64::sqs 23 [])),[some (85,1,.cells [.bool,.rof,.int .i64,.int .i64,.rof,.rof,.flt,.flt,.slw 2,.slw 3,.flt]),some (33,1,.flts),some (33,1,.flts),some (33,1,.flts),some (28,1,.cells [.int .i64,.int .i64,.slw 1]),some (28,1,.cells [.int .i64,.int .i64,.rof]),some (28,1,.cells [.int .i64,.int .i64,.nil]),some (28,1,.cells [.int .i64,.int .i64,.slw 8]),some (33,1,.flts)]⟩
section
variable (N:Nat) (asf:ga) (asm:li) (au4:HE)
noncomputable abbrev Ob:Cx:=⟨Pg,ao [(60,(l5 asf)),(90,(rZ asm)),(59,(YI au4))],aB,N⟩
def da:List Atom->K->Bool:=λa_ κ=>match a_ with
 | [.int i_1,.int aAj,.int aw_,.int auU,.int auR,.bool av2,.fls awy,.int awz,.int awA,.fls awB,.fls awC,.fl awD,.fl awE,.fl awF,.fls awQ,.fls av8,.fls ax0,.int a_5,.int a_6,.int aA4,.int aA5,.fls aA6,.int aB0,.int aB1,.int aAd,.int aAe,.fls b8]=>ah N (jM N asf asm au4 i_1 aAj aw_ auU awy awz awA awB awC awD awE awF awQ av8 ax0 a_5 a_6 aA4 aA5 aA6 aB0 aB1 aAd aAe (λr2 r23=>κ.ext 2 (nG.build [.int aAj,.int aw_,.bool r2,.fls awy,.int awz,.int awA,.fls awB,.fls awC,.fl awD,.fl awE,.fl awF,.fls awQ,.fls av8,.fls ax0,.int a_5,.int a_6,.int aA4,.int aA5,.fls aA6,.int aB0,.int aB1,.int aAd,.int aAe,.fls r23]))) (auR,av2,b8)
 | _=>false
def de:StSh:=⟨(.ptr 0 0::.any::.any::.any::.ptr 4 0::.ptr 5 0::.ptr 6 0::.ptr 7 0::sqs 8 (.int .i64::.int .i64::sqs 23 [])),[some (85,1,.cells [.bool,.rof,.int .i64,.int .i64,.rof,.rof,.flt,.flt,.slw 2,.slw 3,.flt]),some (33,1,.flts),some (33,1,.flts),some (33,1,.flts),some (28,1,.cells [.int .i64,.int .i64,.slw 1]),some (28,1,.cells [.int .i64,.int .i64,.rof]),some (28,1,.cells [.int .i64,.int .i64,.nil]),some (28,1,.cells [.int .i64,.int .i64,.slw 8]),some (33,1,.flts)]⟩
def nF:StSh:=⟨(sqs 6 (.ptr 4 0::.ptr 5 0::sqs 33 [])),[some (85,1,.cells [.bool,.rof,.int .i64,.int .i64,.rof,.rof,.flt,.flt,.slw 2,.slw 3,.flt]),some (33,1,.flts),some (33,1,.flts),some (33,1,.flts),some (28,1,.cells [.int .i64,.int .i64,.nil]),some (28,1,.cells [.int .i64,.int .i64,.slw 6]),some (33,1,.flts)]⟩
def cZ:List Atom->K->Bool:=λa_ κ=>match a_ with
 | [.int azP,.int avM,.bool av3,.fls awG,.int awH,.int awI,.fls awJ,.fls awK,.fl awL,.fl awM,.fl awN,.fls axX,.fls axZ,.fls ax1,.int a_7,.int a_8,.int aBp,.int aA7,.fls aBq,.int aBa,.int aBb,.int azN,.int azO,.fls aAx]=>ah N (jL N asf asm au4 azP awG awH awI awJ awK awL awM awN axX axZ ax1 a_7 a_8 aBp aA7 aBq aBa aBb azN azO (λr0 r16=>κ.ext 0 (nF.build [.bool r0,.fls awG,.int awH,.int awI,.fls awJ,.fls awK,.fl awL,.fl awM,.fl awN,.fls axX,.fls axZ,.fls ax1,.int aBa,.int aBb,.int azN,.int azO,.fls r16]))) (avM,av3,aAx)
 | _=>false
def cS:Nat->Option Ann:=λb_=>cond (b_==2) (some ⟨⟨[0,4,5,6,7,8,16,17,21,22],[(7,some 2,66)],[],[]⟩,[(2,⟨[0,4,5,6,7,16,17],[],[],[]⟩)],some ⟨[6],[],[],[]⟩,some (ay [(dh,da N asf asm au4)])⟩) (cond (b_==0) (some ⟨⟨[0,4,5,6,7,16,17],[(7,some 2,66)],[],[]⟩,[(0,⟨[6,7],[],[],[]⟩)],some ⟨[6],[],[],[]⟩,some (ay [(de,cZ N asf asm au4)])⟩) (none))
theorem nq:az (Ob N asf asm au4) 4 (cS N asf asm au4) (lp Pg 61 1) (dh,da N asf asm au4):=by
 intro a κ h;simp only at h;unfold da at h;split at h
 ·rename_i i_1 aAj aw_ auU auR av2 awy awz awA awB awC awD awE awF awQ av8 ax0 a_5 a_6 aA4 aA5 aA6 aB0 aB1 aAd aAe b8;exact .trans (aA (λ(v_:Int × Bool × LF)=>dh.build [.int i_1,.int aAj,.int aw_,.int auU,.int v_.1,.bool v_.2.1,.fls awy,.int awz,.int awA,.fls awB,.fls awC,.fl awD,.fl awE,.fl awF,.fls awQ,.fls av8,.fls ax0,.int a_5,.int a_6,.int aA4,.int aA5,.fls aA6,.int aB0,.int aB1,.int aAd,.int aAe,.fls v_.2.2]) (λv_ K_=>by obtain⟨auR,av2,b8⟩:=v_; kernel_rfl) N (auR,av2,b8)) h
 ·cases h
theorem np:az (Ob N asf asm au4) 4 (cS N asf asm au4) (lp Pg 61 0) (de,cZ N asf asm au4):=by
 intro a κ h;simp only at h;unfold cZ at h;split at h
 ·rename_i azP avM av3 awG awH awI awJ awK awL awM awN axX axZ ax1 a_7 a_8 aBp aA7 aBq aBa aBb azN azO aAx;exact .trans (aA (λ(v_:Int × Bool × LF)=>de.build [.int azP,.int v_.1,.bool v_.2.1,.fls awG,.int awH,.int awI,.fls awJ,.fls awK,.fl awL,.fl awM,.fl awN,.fls axX,.fls axZ,.fls ax1,.int a_7,.int a_8,.int aBp,.int aA7,.fls aBq,.int aBa,.int aBb,.int azN,.int azO,.fls v_.2.2]) (λv_ K_=>by obtain⟨avM,av3,aAx⟩:=v_; kernel_rfl) N (avM,av3,aAx)) h
 ·cases h
theorem px:aC (Ob N asf asm au4) 4 (cS N asf asm au4) (lp Pg 61 1):=
 au [(dh,da N asf asm au4)] (by kernel_rfl) ⟨nq _ _ _ _,trivial⟩
theorem pw:aC (Ob N asf asm au4) 4 (cS N asf asm au4) (lp Pg 61 0):=
 au [(de,cZ N asf asm au4)] (by kernel_rfl) ⟨np _ _ _ _,trivial⟩
theorem pp (av0:ab Pg 60 (l5 asf)) (azY:ab Pg 90 (rZ asm)) (aEJ:ab Pg 59 (YI au4)):ab Pg 61 (eJ (ig N asf asm au4)):=by
 refine bH (cx:=(Ob N asf asm au4)) (nY (aa av0 (aa azY (aa aEJ (ae _)))) ⟨(fe (by kernel_rfl)),(fe (by kernel_rfl)),(dk (by kernel_rfl) (ob au4)),trivial⟩) kh (gT (ig N asf asm au4)) (cS N asf asm au4) 2 4 (by kernel_rfl) (iL (pw _ _ _ _) (px _ _ _ _)) ?_;intro a k h;unfold gT at h;split at h;exact⟨[_,_,_,_],rfl,rfl,.trans (by kernel_rfl) h⟩;cases h
def ci:StSh:=⟨(.ptr 0 0::.any::.sl 2::sqs 4 (.flt::.any::.any::.sl 1::.int .i64::.int .i64::sqs 17 [])),[some (85,1,.cells [.bool,.rof,.int .i64,.int .i64,.rof,.rof,.flt,.flt,.slw 3,.slw 4,.flt]),some (33,1,.flts),some (33,1,.flts),some (33,1,.flts),some (33,1,.flts)]⟩
def lY:StSh:=⟨(sqs 7 (.flt::sqs 22 [])),[some (85,1,.cells [.bool,.rof,.int .i64,.int .i64,.rof,.rof,.flt,.flt,.slw 3,.slw 4,.flt]),some (33,1,.flts),some (33,1,.flts),some (33,1,.flts),some (33,1,.flts)]⟩
end
section
variable (N:Nat) (SQ1:um) (SQ2:sa)
noncomputable abbrev aa1:Cx:=⟨Pg,ao [(79,(FQ1 SQ1)),(64,(FQ2 SQ2))],aB,N⟩
def b9:List Atom->K->Bool:=λa_ κ=>match a_ with
 | [.nat aw1,.nat awV,.fl t,.nat t10,.nat avg,.int t11,.int t12,.bool s,.fls s_1,.int s_2,.int s_3,.fls s_4,.fls s_5,.fl s_6,.fl s_7,.fl s_8,.fls avb,.fls avI,.fls b3,.fls b4]=>ah N (agB N SQ1 SQ2 aw1 awV t10 avg t11 s_1 s_2 s_3 s_4 s_5 s_6 s_7 s_8 avb avI b3 b4 (λr0 r1=>κ.ext 0 (lY.build [.fl r0,.bool r1,.fls s_1,.int s_2,.int s_3,.fls s_4,.fls s_5,.fl s_6,.fl s_7,.fl s_8,.fls avb,.fls avI,.fls b3,.fls b4]))) (t,t12,s)
 | _=>false
def Qd:Nat->Option Ann:=λb_=>cond (b_==0) (some ⟨⟨[0,2,7,10,11,12],[],[],[]⟩,[(0,⟨[7],[],[],[]⟩)],some ⟨[6],[],[],[]⟩,some (ay [(ci,b9 N SQ1 SQ2)])⟩) (none)
theorem lR:az (aa1 N SQ1 SQ2) 5 (Qd N SQ1 SQ2) (lp Pg 59 0) (ci,b9 N SQ1 SQ2):=by
 intro a κ h;simp only at h;unfold b9 at h;split at h
 ·rename_i aw1 awV t t10 avg t11 t12 s s_1 s_2 s_3 s_4 s_5 s_6 s_7 s_8 avb avI b3 b4;exact .trans (aA (λ(v_:Fl × Int × Bool)=>ci.build [.nat aw1,.nat awV,.fl v_.1,.nat t10,.nat avg,.int t11,.int v_.2.1,.bool v_.2.2,.fls s_1,.int s_2,.int s_3,.fls s_4,.fls s_5,.fl s_6,.fl s_7,.fl s_8,.fls avb,.fls avI,.fls b3,.fls b4]) (λv_ K_=>by obtain⟨t,t12,s⟩:=v_; kernel_rfl) N (t,t12,s)) h
 ·cases h
theorem nw:aC (aa1 N SQ1 SQ2) 5 (Qd N SQ1 SQ2) (lp Pg 59 0):=
 au [(ci,b9 N SQ1 SQ2)] (by kernel_rfl) ⟨lR _ _ _,trivial⟩
theorem abA (hQ1:ab Pg 79 (FQ1 SQ1)) (hQ2:ab Pg 64 (FQ2 SQ2)):ab Pg 59 (SV (YQ N SQ1 SQ2)):=by
 refine bH (cx:=(aa1 N SQ1 SQ2)) (nY (aa hQ1 (aa hQ2 (ae _))) ⟨(dk (by kernel_rfl) (cT SQ1)),(dk (by kernel_rfl) (bZ SQ2)),trivial⟩) Vv (MB (YQ N SQ1 SQ2)) (Qd N SQ1 SQ2) 1 5 (by kernel_rfl) (aJ (nw _ _ _)) ?_;intro a k h;unfold MB at h;split at h;exact⟨[_,_,_,_,_],rfl,rfl,.trans (by kernel_rfl) h⟩;cases h
end
theorem jO (N:Nat) (asf:ga) (awX:D6) (SQ1:um) (SQ2:sa) (av0:ab Pg 60 (l5 asf)) (aC5:ab Pg 59 (SV awX)) (hQ1:ab Pg 79 (FQ1 SQ1)) (hQ2:ab Pg 64 (FQ2 SQ2)):ab Pg 80 (bG (fK N asf awX SQ1 SQ2)):=by
 refine ggV N (nY (aa av0 (aa aC5 (aa hQ1 (aa hQ2 (ae _))))) ⟨(fe (by kernel_rfl)),(dk (by kernel_rfl) (oa awX)),(dk (by kernel_rfl) (cT SQ1)),(dk (by kernel_rfl) (bZ SQ2)),trivial⟩) 8 ?_;intro a k h;unfold fI at h;split at h;exact⟨[_,_,_,_,_,_,_,_],rfl,rfl,.trans (by kernel_rfl) h⟩;cases h
def cl:StSh:=⟨(.int .i64::.fn 80 [.ptr 0 0,.ptr 1 0,.ptr 2 0]::.any::.any::.ptr 8 0::.ptr 9 0::.int .i64::sqs 9 (.int .i64::.int .i64::.any::.any::.any::.int .i64::.int .i64::sqs 27 [])),[some (79,1,.cells [.ptr 3 0]),some (28,1,.cells [.int .i64,.int .i64,.slw 4]),some (28,1,.cells [.int .i64,.int .i64,.slw 5]),some (85,1,.cells [.bool,.rof,.int .i64,.int .i64,.rof,.rof,.flt,.flt,.slw 6,.slw 7,.flt]),some (33,1,.flts),some (33,1,.flts),some (33,1,.flts),some (33,1,.flts),some (28,1,.cells [.int .i64,.int .i64,.nil]),some (28,1,.cells [.int .i64,.int .i64,.slw 10]),some (33,1,.flts)]⟩
def l4:StSh:=⟨(.int .i64::.fn 80 [.ptr 0 0,.ptr 1 0,.ptr 2 0]::.any::.any::.ptr 8 0::.ptr 9 0::sqs 10 (.int .i64::.int .i64::sqs 32 [])),[some (79,1,.cells [.ptr 3 0]),some (28,1,.cells [.int .i64,.int .i64,.slw 4]),some (28,1,.cells [.int .i64,.int .i64,.slw 5]),some (85,1,.cells [.bool,.rof,.int .i64,.int .i64,.rof,.rof,.flt,.flt,.slw 6,.slw 7,.flt]),some (33,1,.flts),some (33,1,.flts),some (33,1,.flts),some (33,1,.flts),some (28,1,.cells [.int .i64,.int .i64,.nil]),some (28,1,.cells [.int .i64,.int .i64,.slw 10]),some (33,1,.flts)]⟩
section
variable (N:Nat) (ar3:aM)
noncomputable abbrev Oc:Cx:=⟨Pg,ao [(80,(bG ar3))],aB,N⟩
def cd:List Atom->K->Bool:=λa_ κ=>match a_ with
 | [.int n_2,.int i,.int aw8,.int aw9,.int t21,.int t22,.int azt,.int azu,.int azv,.int azw,.bool aAv,.fls azF,.int azG,.int azH,.fls azI,.fls azJ,.fl azK,.fl azL,.fl azM,.fls ay2,.fls avP,.fls ax2,.fls aA3,.int awO,.int awP,.int av1,.int axR,.fls aw0]=>ah N (iE N ar3 n_2 i aw8 aw9 t21 azt azu azv azw azF azG azH azI azJ azK azL azM ay2 avP ax2 aA3 awO awP av1 axR (λr7 r24=>κ.ext 2 (l4.build [.int n_2,.int aw8,.int aw9,.int azt,.int azu,.int azv,.int azw,.bool r7,.fls azF,.int azG,.int azH,.fls azI,.fls azJ,.fl azK,.fl azL,.fl azM,.fls ay2,.fls avP,.fls ax2,.fls aA3,.int awO,.int awP,.int av1,.int axR,.fls r24]))) (t22,aAv,aw0)
 | _=>false
def ck:StSh:=⟨(.int .i64::.fn 80 [.ptr 0 0,.ptr 1 0,.ptr 2 0]::.any::.any::.ptr 8 0::.ptr 9 0::sqs 10 (.int .i64::.int .i64::sqs 32 [])),[some (79,1,.cells [.ptr 3 0]),some (28,1,.cells [.int .i64,.int .i64,.slw 4]),some (28,1,.cells [.int .i64,.int .i64,.slw 5]),some (85,1,.cells [.bool,.rof,.int .i64,.int .i64,.rof,.rof,.flt,.flt,.slw 6,.slw 7,.flt]),some (33,1,.flts),some (33,1,.flts),some (33,1,.flts),some (33,1,.flts),some (28,1,.cells [.int .i64,.int .i64,.nil]),some (28,1,.cells [.int .i64,.int .i64,.slw 10]),some (33,1,.flts)]⟩
def l3:StSh:=⟨(sqs 4 (.ptr 8 0::.ptr 9 0::sqs 44 [])),[some (79,1,.cells [.ptr 3 0]),some (28,1,.cells [.int .i64,.int .i64,.slw 4]),some (28,1,.cells [.int .i64,.int .i64,.slw 5]),some (85,1,.cells [.bool,.rof,.int .i64,.int .i64,.rof,.rof,.flt,.flt,.slw 6,.slw 7,.flt]),some (33,1,.flts),some (33,1,.flts),some (33,1,.flts),some (33,1,.flts),some (28,1,.cells [.int .i64,.int .i64,.nil]),some (28,1,.cells [.int .i64,.int .i64,.slw 10]),some (33,1,.flts)]⟩
def cb:List Atom->K->Bool:=λa_ κ=>match a_ with
 | [.int n_1,.int t16,.int t17,.int at_,.int azq,.int azr,.int azs,.bool b3,.fls aAV,.int ax0,.int ax1,.fls aAW,.fls aAX,.fl aAY,.fl aAZ,.fl aA0,.fls b4,.fls b5,.fls b6,.fls b7,.int t4,.int ay7,.int out,.int ate,.fls b10]=>ah N (iD N ar3 n_1 t16 at_ azq azr azs aAV ax0 ax1 aAW aAX aAY aAZ aA0 b4 b5 b6 b7 t4 ay7 out ate (λr4 r21=>κ.ext 0 (l3.build [.int at_,.int azq,.int azr,.int azs,.bool r4,.fls aAV,.int ax0,.int ax1,.fls aAW,.fls aAX,.fl aAY,.fl aAZ,.fl aA0,.fls b4,.fls b5,.fls b6,.fls b7,.int t4,.int ay7,.int out,.int ate,.fls r21]))) (t17,b3,b10)
 | _=>false
def bU:Nat->Option Ann:=λb_=>cond (b_==2) (some ⟨⟨[0,1,4,5,6,16,17,21,22],[],[],[]⟩,[(2,⟨[0,1,4,5,16,17],[],[],[]⟩)],some ⟨[4],[],[],[]⟩,some (ay [(cl,cd N ar3)])⟩) (cond (b_==0) (some ⟨⟨[0,1,4,5,16,17],[],[],[]⟩,[(0,⟨[4,5],[],[],[]⟩)],some ⟨[4],[],[],[]⟩,some (ay [(ck,cb N ar3)])⟩) (none))
theorem lU:az (Oc N ar3) 8 (bU N ar3) (lp Pg 62 1) (cl,cd N ar3):=by
 intro a κ h;simp only at h;unfold cd at h;split at h
 ·rename_i n_2 i aw8 aw9 t21 t22 azt azu azv azw aAv azF azG azH azI azJ azK azL azM ay2 avP ax2 aA3 awO awP av1 axR aw0;exact .trans (aA (λ(v_:Int × Bool × LF)=>cl.build [.int n_2,.int i,.int aw8,.int aw9,.int t21,.int v_.1,.int azt,.int azu,.int azv,.int azw,.bool v_.2.1,.fls azF,.int azG,.int azH,.fls azI,.fls azJ,.fl azK,.fl azL,.fl azM,.fls ay2,.fls avP,.fls ax2,.fls aA3,.int awO,.int awP,.int av1,.int axR,.fls v_.2.2]) (λv_ K_=>by obtain⟨t22,aAv,aw0⟩:=v_; kernel_rfl) N (t22,aAv,aw0)) h
 ·cases h
theorem lT:az (Oc N ar3) 8 (bU N ar3) (lp Pg 62 0) (ck,cb N ar3):=by
 intro a κ h;simp only at h;unfold cb at h;split at h
 ·rename_i n_1 t16 t17 at_ azq azr azs b3 aAV ax0 ax1 aAW aAX aAY aAZ aA0 b4 b5 b6 b7 t4 ay7 out ate b10;exact .trans (aA (λ(v_:Int × Bool × LF)=>ck.build [.int n_1,.int t16,.int v_.1,.int at_,.int azq,.int azr,.int azs,.bool v_.2.1,.fls aAV,.int ax0,.int ax1,.fls aAW,.fls aAX,.fl aAY,.fl aAZ,.fl aA0,.fls b4,.fls b5,.fls b6,.fls b7,.int t4,.int ay7,.int out,.int ate,.fls v_.2.2]) (λv_ K_=>by obtain⟨t17,b3,b10⟩:=v_; kernel_rfl) N (t17,b3,b10)) h
 ·cases h
theorem nz:aC (Oc N ar3) 8 (bU N ar3) (lp Pg 62 1):=
 au [(cl,cd N ar3)] (by kernel_rfl) ⟨lU _ _,trivial⟩
theorem ny:aC (Oc N ar3) 8 (bU N ar3) (lp Pg 62 0):=
 au [(ck,cb N ar3)] (by kernel_rfl) ⟨lT _ _,trivial⟩
theorem no (auG:ab Pg 80 (bG ar3)):ab Pg 62 (dy (fJ N ar3)):=by
 refine bH (cx:=(Oc N ar3)) (aD (aa auG (ae _)) (by kernel_rfl)) iS (fH (fJ N ar3)) (bU N ar3) 2 8 (by kernel_rfl) (iL (ny _ _) (nz _ _)) ?_;intro a k h;unfold fH at h;split at h;exact⟨[_,_,_,_,_,_,_,_],rfl,rfl,.trans (by kernel_rfl) h⟩;cases h
def cH:StSh:=⟨(.any::.ptr 3 0::.ptr 4 0::.int .i64::.ptr 5 0::.int .i64::sqs 11 (.int .i64::.int .i64::.any::.any::.int .i64::.int .i64::sqs 49 [])),[some (85,1,.cells [.bool,.rof,.int .i64,.int .i64,.rof,.rof,.flt,.flt,.slw 1,.slw 2,.flt]),some (33,1,.flts),some (33,1,.flts),some (79,1,.cells [.ptr 0 0]),some (28,1,.cells [.int .i64,.int .i64,.nil]),some (28,1,.cells [.int .i64,.int .i64,.slw 6]),some (33,1,.flts)]⟩
def mN:StSh:=⟨(.any::.ptr 3 0::.ptr 4 0::.int .i64::.ptr 5 0::sqs 12 (.int .i64::.int .i64::sqs 53 [])),[some (85,1,.cells [.bool,.rof,.int .i64,.int .i64,.rof,.rof,.flt,.flt,.slw 1,.slw 2,.flt]),some (33,1,.flts),some (33,1,.flts),some (79,1,.cells [.ptr 0 0]),some (28,1,.cells [.int .i64,.int .i64,.nil]),some (28,1,.cells [.int .i64,.int .i64,.slw 6]),some (33,1,.flts)]⟩
end
section
variable (N:Nat) (SQ1:um) (SQ2:sa) (ar9:bS) (ar5:bu)
noncomputable abbrev Od:Cx:=⟨Pg,ao [(79,(FQ1 SQ1)),(64,(FQ2 SQ2)),(61,(eJ ar9)),(62,(dy ar5))],aB,N⟩
def cF:List Atom->K->Bool:=λa_ κ=>match a_ with
 | [.int n_2,.int i_1,.int aw_,.int aAk,.int auU,.int auR,.bool ayW,.fls axF,.int axG,.int axH,.fls axI,.fls awu,.fl axJ,.fl axK,.fl axL,.fls awQ,.fls av8,.int aBX,.int aBY,.int a_4,.int a_5,.fls b6]=>ah N (iZ N SQ1 SQ2 ar9 ar5 n_2 i_1 aw_ aAk auU axF axG axH axI awu axJ axK axL awQ av8 aBX aBY a_4 a_5 (λr3 r18=>κ.ext 2 (mN.build [.int n_2,.int aw_,.int aAk,.bool r3,.fls axF,.int axG,.int axH,.fls axI,.fls awu,.fl axJ,.fl axK,.fl axL,.fls awQ,.fls av8,.int aBX,.int aBY,.int a_4,.int a_5,.fls r18]))) (auR,ayW,b6)
 | _=>false
def cG:StSh:=⟨(.any::.ptr 3 0::.ptr 4 0::.int .i64::.ptr 5 0::sqs 12 (.int .i64::.int .i64::sqs 53 [])),[some (85,1,.cells [.bool,.rof,.int .i64,.int .i64,.rof,.rof,.flt,.flt,.slw 1,.slw 2,.flt]),some (33,1,.flts),some (33,1,.flts),some (79,1,.cells [.ptr 0 0]),some (28,1,.cells [.int .i64,.int .i64,.nil]),some (28,1,.cells [.int .i64,.int .i64,.slw 6]),some (33,1,.flts)]⟩
def mM:StSh:=⟨(.any::.ptr 3 0::.ptr 4 0::.int .i64::.ptr 5 0::sqs 67 []),[some (85,1,.cells [.bool,.rof,.int .i64,.int .i64,.rof,.rof,.flt,.flt,.slw 1,.slw 2,.flt]),some (33,1,.flts),some (33,1,.flts),some (79,1,.cells [.ptr 0 0]),some (28,1,.cells [.int .i64,.int .i64,.nil]),some (28,1,.cells [.int .i64,.int .i64,.slw 6]),some (33,1,.flts)]⟩
def cE:List Atom->K->Bool:=λa_ κ=>match a_ with
 | [.int n_3,.int avM,.int axo,.bool ay9,.fls azx,.int azy,.int azz,.fls azA,.fls azB,.fl azC,.fl azD,.fl azE,.fls axX,.fls axZ,.int aA9,.int aA_,.int a_6,.int a_7,.fls aAw]=>ah N (iY N SQ1 SQ2 ar9 ar5 n_3 avM azx azy azz azA azB azC azD azE axX axZ aA9 aA_ a_6 a_7 (λr1 r16=>κ.ext 0 (mM.build [.int n_3,.bool r1,.fls azx,.int azy,.int azz,.fls azA,.fls azB,.fl azC,.fl azD,.fl azE,.fls axX,.fls axZ,.int aA9,.int aA_,.int a_6,.int a_7,.fls r16]))) (axo,ay9,aAw)
 | _=>false
def cC:Nat->Option Ann:=λb_=>cond (b_==2) (some ⟨⟨[1,2,3,4,5,17,18,21,22],[(4,some 2,66)],[],[]⟩,[(2,⟨[1,2,3,4,17,18],[],[],[]⟩)],some ⟨[2],[],[],[]⟩,some (ay [(cH,cF N SQ1 SQ2 ar9 ar5)])⟩) (cond (b_==0) (some ⟨⟨[1,2,3,4,17,18],[(4,some 2,66)],[],[]⟩,[(0,⟨[1,2,3,4],[],[],[]⟩)],some ⟨[2],[],[],[]⟩,some (ay [(cG,cE N SQ1 SQ2 ar9 ar5)])⟩) (none))
theorem mz:az (Od N SQ1 SQ2 ar9 ar5) 3 (cC N SQ1 SQ2 ar9 ar5) (lp Pg 43 1) (cH,cF N SQ1 SQ2 ar9 ar5):=by
 intro a κ h;simp only at h;unfold cF at h;split at h
 ·rename_i n_2 i_1 aw_ aAk auU auR ayW axF axG axH axI awu axJ axK axL awQ av8 aBX aBY a_4 a_5 b6;exact .trans (aA (λ(v_:Int × Bool × LF)=>cH.build [.int n_2,.int i_1,.int aw_,.int aAk,.int auU,.int v_.1,.bool v_.2.1,.fls axF,.int axG,.int axH,.fls axI,.fls awu,.fl axJ,.fl axK,.fl axL,.fls awQ,.fls av8,.int aBX,.int aBY,.int a_4,.int a_5,.fls v_.2.2]) (λv_ K_=>by obtain⟨auR,ayW,b6⟩:=v_; kernel_rfl) N (auR,ayW,b6)) h
 ·cases h
theorem my:az (Od N SQ1 SQ2 ar9 ar5) 3 (cC N SQ1 SQ2 ar9 ar5) (lp Pg 43 0) (cG,cE N SQ1 SQ2 ar9 ar5):=by
 intro a κ h;simp only at h;unfold cE at h;split at h
 ·rename_i n_3 avM axo ay9 azx azy azz azA azB azC azD azE axX axZ aA9 aA_ a_6 a_7 aAw;exact .trans (aA (λ(v_:Int × Bool × LF)=>cG.build [.int n_3,.int avM,.int v_.1,.bool v_.2.1,.fls azx,.int azy,.int azz,.fls azA,.fls azB,.fl azC,.fl azD,.fl azE,.fls axX,.fls axZ,.int aA9,.int aA_,.int a_6,.int a_7,.fls v_.2.2]) (λv_ K_=>by obtain⟨axo,ay9,aAw⟩:=v_; kernel_rfl) N (axo,ay9,aAw)) h
 ·cases h
theorem oj:aC (Od N SQ1 SQ2 ar9 ar5) 3 (cC N SQ1 SQ2 ar9 ar5) (lp Pg 43 1):=
 au [(cH,cF N SQ1 SQ2 ar9 ar5)] (by kernel_rfl) ⟨mz _ _ _ _ _,trivial⟩
theorem oi:aC (Od N SQ1 SQ2 ar9 ar5) 3 (cC N SQ1 SQ2 ar9 ar5) (lp Pg 43 0):=
 au [(cG,cE N SQ1 SQ2 ar9 ar5)] (by kernel_rfl) ⟨my _ _ _ _ _,trivial⟩
theorem oc (hQ1:ab Pg 79 (FQ1 SQ1)) (hQ2:ab Pg 64 (FQ2 SQ2)) (avR:ab Pg 61 (eJ ar9)) (avu:ab Pg 62 (dy ar5)):ab Pg 43 (dT (gq N SQ1 SQ2 ar9 ar5)):=by
 refine bH (cx:=(Od N SQ1 SQ2 ar9 ar5)) (nY (aa hQ1 (aa hQ2 (aa avR (aa avu (ae _))))) ⟨(dk (by kernel_rfl) (cT SQ1)),(dk (by kernel_rfl) (bZ SQ2)),(fe (by kernel_rfl)),(fe (by kernel_rfl)),trivial⟩) ju (ge (gq N SQ1 SQ2 ar9 ar5)) (cC N SQ1 SQ2 ar9 ar5) 2 3 (by kernel_rfl) (iL (oi _ _ _ _ _) (oj _ _ _ _ _)) ?_;intro a k h;unfold ge at h;split at h;exact⟨[_,_,_],rfl,rfl,.trans (by kernel_rfl) h⟩;cases h
end
theorem ab4 (N:Nat):ab Pg 77 (Tf (akU N)):=by
 refine gfV N (ae _) 3 ?_;intro a k h;unfold Sk at h;split at h;exact⟨[_,_,_],rfl,rfl,.trans (by kernel_rfl) h⟩;cases h
theorem oE (N:Nat) (awY:D8) (asM:eX) (aDq:ab Pg 77 (Tf awY)) (avv:ab Pg 73 (lz asM)):ab Pg 65 (d9 (ko N awY asM)):=by
 refine ggV N (nY (aa aDq (aa avv (ae _))) ⟨(dk (by kernel_rfl) (pW awY)),(fe (by kernel_rfl)),trivial⟩) 5 ?_;intro a k h;unfold kl at h;split at h;exact⟨[_,_,_,_,_],rfl,rfl,.trans (by kernel_rfl) h⟩;cases h
end Go.Proofs.YteifemaagdeomaaGreatDoor
