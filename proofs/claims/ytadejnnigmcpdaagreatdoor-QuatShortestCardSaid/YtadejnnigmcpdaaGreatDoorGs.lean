/-
  THE MEANINGS, as specifications (written by program).
  Conditions: none.
-/
import Derived.Test.YtadejnnigmcpdaaGreatDoorGp
import Derived.Test.YtadejnnigmcpdaaGreatDoorMachP
import Derived.Test.YtadejnnigmcpdaaGreatDoorProg
set_option linter.unusedVariables false
namespace Go.Proofs.YtadejnnigmcpdaaGreatDoor
open Go Go.Mach Go.Proofs
set_option maxRecDepth 50000
abbrev KV:=V->List Blk->Bool
abbrev SPT:=List Atom->KV->Bool
noncomputable abbrev Pg:Program:=Tryz.prog
def vqs:Nat → List V → List V
  | 0,t=>t
  | n+1,t=>.any::vqs n t
abbrev vwi (z:Int):V:=.int .i64 z
abbrev vwu (z:Int):V:=.int .u64 z
abbrev vwv (z:Int):V:=.int .u32 z
abbrev vwr (l:LI):V:=.roi .u64 l
abbrev vws (l:LI):V:=.roi .u32 l
theorem aM {p:Nat → Prop} (h:p 0):∀ i,i<1 → p i
 | 0,_=>h
 | _+1,g=>by omega
theorem jN {p:Nat → Prop} (h:p 0) (h1:p 1):∀ i,i<2 → p i
 | 0,_=>h
 | 1,_=>h1
 | _+2,g=>by omega
def sqs:Nat → List Sh → List Sh
 | 0,t=>t
 | n+1,t=>.any::sqs n t
def aj:Nat->Bool:=λg=>g==147||g==99||g==167||g==139||g==1000166||g==1000145||g==1000143||g==1000056
def abT:FnSh:=⟨[.fb],[]⟩
def Wt (SZ185:lH):SPT:=λa_ c_=>match a_ with
 | [.nat a0]=>SZ185 a0 (λr0=>c_ (vwu r0) [])
 | _=>false
abbrev Cg (SZ185:lH):Fs:=az abT (Wt SZ185)
def Bc:FnSh:=⟨[.litI .i64 0],[]⟩
def yi (anm:gE):SPT:=λa_ c_=>match a_ with
 | []=>anm (λr0 r1 r2=>c_ (.agg [vwu r0,vwi r1,vwi r2]) [])
 | _=>false
abbrev nU (anm:gE):Fs:=az Bc (yi anm)
def MX:FnSh:=⟨[.agg [.int .u64,.int .i64,.int .i64]],[]⟩
def H0 (SZ186:lI):SPT:=λa_ c_=>match a_ with
 | [.int f_0,.int f_1,.int f_2]=>SZ186 f_0 f_1 f_2 (λr0=>c_ (vwu r0) [])
 | _=>false
abbrev zp (SZ186:lI):Fs:=az MX (H0 SZ186)
def LW:FnSh:=⟨[.agg [.int .u64,.int .i64,.int .i64]],[]⟩
def GR (SZ115:lj):SPT:=λa_ c_=>match a_ with
 | [.int f_0,.int f_1,.int f_2]=>SZ115 f_0 f_1 f_2 (λr0=>c_ (vwu r0) [])
 | _=>false
abbrev y8 (SZ115:lj):Fs:=az LW (GR SZ115)
def LV:FnSh:=⟨[.int .u64,.agg [.int .u64,.int .i64,.int .i64]],[]⟩
def GQ (SZ114:sG):SPT:=λa_ c_=>match a_ with
 | [.int b,.int f_0,.int f_1,.int f_2]=>SZ114 b f_0 f_1 f_2 (λr0=>c_ (.bool r0) [])
 | _=>false
abbrev IB (SZ114:sG):Fs:=az LV (GQ SZ114)
def V8:FnSh:=⟨[.agg [.int .u64,.int .i64,.int .i64]],[]⟩
def XD (SZ90:kO):SPT:=λa_ c_=>match a_ with
 | [.int f_0,.int f_1,.int f_2]=>SZ90 f_0 f_1 f_2 (λr0=>c_ (vwu r0) [])
 | _=>false
abbrev Cm (SZ90:kO):Fs:=az V8 (XD SZ90)
def Nb:FnSh:=⟨[.agg [.int .u64,.int .i64,.int .i64]],[]⟩
def Ie (SZ200:tU):SPT:=λa_ c_=>match a_ with
 | [.int f_0,.int f_1,.int f_2]=>SZ200 f_0 f_1 f_2 (λr0=>c_ (vwu r0) [])
 | _=>false
abbrev Jz (SZ200:tU):Fs:=az Nb (Ie SZ200)
def V_:FnSh:=⟨[.int .u64,.agg [.int .u64,.int .i64,.int .i64]],[]⟩
def XF (SZ92:Af):SPT:=λa_ c_=>match a_ with
 | [.int b,.int f_0,.int f_1,.int f_2]=>SZ92 b f_0 f_1 f_2 (λr0=>c_ (vwu r0) [])
 | _=>false
abbrev YH (SZ92:Af):Fs:=az V_ (XF SZ92)
def Vn:FnSh:=⟨[.int .u64,.agg [.int .u64,.int .i64,.int .i64]],[]⟩
def WP (SZ39:oT):SPT:=λa_ c_=>match a_ with
 | [.int b,.int f_0,.int f_1,.int f_2]=>SZ39 b f_0 f_1 f_2 (λr0 r1 r2=>c_ (.tup [.bool r0,vwi r1,vwu r2]) [])
 | _=>false
abbrev Nw (SZ39:oT):Fs:=az Vn (WP SZ39)
def Vm:FnSh:=⟨[.int .u64,.agg [.int .u64,.int .i64,.int .i64]],[]⟩
def WO (SZ38:oS):SPT:=λa_ c_=>match a_ with
 | [.int b,.int f_0,.int f_1,.int f_2]=>SZ38 b f_0 f_1 f_2 (λr0=>c_ (vwi r0) [])
 | _=>false
abbrev Nv (SZ38:oS):Fs:=az Vm (WO SZ38)
def M8:FnSh:=⟨[.fb],[]⟩
def H9 (SZ194:Et):SPT:=λa_ c_=>match a_ with
 | [.nat x]=>SZ194 x (λr0=>c_ (vwi r0) [])
 | _=>false
abbrev Ju (SZ194:Et):Fs:=az M8 (H9 SZ194)
def abP:FnSh:=⟨[.int .u64],[]⟩
def Wh (SZ108:cV):SPT:=λa_ c_=>match a_ with
 | [.int a0]=>SZ108 a0 (λr0=>c_ (.flt r0) [])
 | _=>false
abbrev jO (SZ108:cV):Fs:=az abP (Wh SZ108)
def Ng:FnSh:=⟨[.fb],[]⟩
def Ij (SZ206:Eu):SPT:=λa_ c_=>match a_ with
 | [.nat x]=>SZ206 x (λr0=>c_ (.flt r0) [])
 | _=>false
abbrev JD (SZ206:Eu):Fs:=az Ng (Ij SZ206)
def Vd:FnSh:=⟨[.rof],[]⟩
def WE (SZ28:ge):SPT:=λa_ c_=>match a_ with
 | [.fls l]=>SZ28 l (λr0=>c_ (.bool r0) [])
 | _=>false
abbrev mQ (SZ28:ge):Fs:=az Vd (WE SZ28)
def U6:FnSh:=⟨[.ro 4 [.flt,.flt,.flt,.flt]],[]⟩
def Ws (SZ18:gD):SPT:=λa_ c_=>match a_ with
 | [.fl ao_,.fl apa,.fl apb,.fl apc]=>SZ18 ao_ apa apb apc (λr0=>c_ (.bool r0) [])
 | _=>false
abbrev yx (SZ18:gD):Fs:=az U6 (Ws SZ18)
def Vl:FnSh:=⟨[.agg [.flt,.flt,.flt,.flt]],[]⟩
def WN (SZ37:hI):SPT:=λa_ c_=>match a_ with
 | [.fl q_0,.fl q_1,.fl q_2,.fl q_3]=>SZ37 q_0 q_1 q_2 q_3 (c_ (.agg [.flt q_0,.flt q_1,.flt q_2,.flt q_3]) [])
 | _=>false
abbrev si (SZ37:hI):Fs:=az Vl (WN SZ37)
def Pa:FnSh:=⟨[.flt],[]⟩
def yj (amQ:aU):SPT:=λa_ c_=>match a_ with
 | [.fl x]=>amQ x (λr0=>c_ (.flt r0) [])
 | _=>false
abbrev bE (amQ:aU):Fs:=az Pa (yj amQ)
def Mw:FnSh:=⟨[.flt,.int .i64],[]⟩
def Hv (SZ154:kw):SPT:=λa_ c_=>match a_ with
 | [.fl f,.int sign]=>SZ154 f sign (λr0=>c_ (.bool r0) [])
 | _=>false
abbrev zi (SZ154:kw):Fs:=az Mw (Hv SZ154)
def MC:FnSh:=⟨[.flt],[]⟩
def HC (SZ161:kx):SPT:=λa_ c_=>match a_ with
 | [.fl f]=>SZ161 f (λr0=>c_ (.bool r0) [])
 | _=>false
abbrev zm (SZ161:kx):Fs:=az MC (HC SZ161)
def V2:FnSh:=⟨[.flt],[]⟩
def Xv (SZ80:oX):SPT:=λa_ c_=>match a_ with
 | [.fl x]=>SZ80 x (λr0 r1=>c_ (.tup [.flt r0,vwi r1]) [])
 | _=>false
abbrev NG (SZ80:oX):Fs:=az V2 (Xv SZ80)
def abR:FnSh:=⟨[.flt],[]⟩
def Wl (SZ129:du):SPT:=λa_ c_=>match a_ with
 | [.fl a0]=>SZ129 a0 (λr0=>c_ (vwu r0) [])
 | _=>false
abbrev kN (SZ129:du):Fs:=az abR (Wl SZ129)
def Nd:FnSh:=⟨[.flt],[]⟩
def Ih (SZ202:t_):SPT:=λa_ c_=>match a_ with
 | [.fl f]=>SZ202 f (λr0 r1=>c_ (.tup [.flt r0,vwi r1]) [])
 | _=>false
abbrev JB (SZ202:t_):Fs:=az Nd (Ih SZ202)
def LR:FnSh:=⟨[.flt],[]⟩
def GN (SZ111:iS):SPT:=λa_ c_=>match a_ with
 | [.fl f]=>SZ111 f (λr0 r1=>c_ (.tup [.flt r0,vwi r1]) [])
 | _=>false
abbrev uR (SZ111:iS):Fs:=az LR (GN SZ111)
def Ma:FnSh:=⟨[.flt,.flt],[]⟩
def G7 (SZ128:pp):SPT:=λa_ c_=>match a_ with
 | [.fl f,.fl sign]=>SZ128 f sign (λr0=>c_ (.flt r0) [])
 | _=>false
abbrev IH (SZ128:pp):Fs:=az Ma (G7 SZ128)
def lc:FnSh:=⟨[.int .i64],[]⟩
def yk (am4:jS):SPT:=λa_ c_=>match a_ with
 | [.int sign]=>am4 sign (λr0=>c_ (.flt r0) [])
 | _=>false
abbrev vY (am4:jS):Fs:=az lc (yk am4)
def rX:FnSh:=⟨[.flt,.int .i64],[]⟩
def Ib (SZ198:tR):SPT:=λa_ c_=>match a_ with
 | [.fl frac,.int exp]=>SZ198 frac exp (λr0=>c_ (.flt r0) [])
 | _=>false
abbrev Jx (SZ198:tR):Fs:=az rX (Ib SZ198)
def V1:FnSh:=⟨[.flt,.int .i64],[]⟩
def Xu (SZ79:hJ):SPT:=λa_ c_=>match a_ with
 | [.fl frac,.int exp]=>SZ79 frac exp (λr0=>c_ (.flt r0) [])
 | _=>false
abbrev sk (SZ79:hJ):Fs:=az V1 (Xu SZ79)
def abU:FnSh:=⟨[.flt],[]⟩
def Wx (SZ214:ub):SPT:=λa_ c_=>match a_ with
 | [.fl a0]=>SZ214 a0 (λr0=>c_ (.flt r0) [])
 | _=>false
abbrev PC (SZ214:ub):Fs:=az abU (Wx SZ214)
def Me:FnSh:=⟨[.flt],[]⟩
def Ha (SZ133:f6):SPT:=λa_ c_=>match a_ with
 | [.fl x]=>SZ133 x (λr0=>c_ (.flt r0) [])
 | _=>false
abbrev oK (SZ133:f6):Fs:=az Me (Ha SZ133)
def MM:FnSh:=⟨[.agg [.flt,.flt,.flt,.flt]],[]⟩
def HP (SZ174:tz):SPT:=λa_ c_=>match a_ with
 | [.fl l_0,.fl l_1,.fl l_2,.fl l_3]=>SZ174 l_0 l_1 l_2 l_3 (c_ (.agg [.flt l_0,.flt l_1,.flt l_2,.flt l_3]) [])
 | _=>false
abbrev Jf (SZ174:tz):Fs:=az MM (HP SZ174)
def V3:FnSh:=⟨[.agg [.flt,.flt,.flt,.flt]],[]⟩
def Xw (SZ81:m4):SPT:=λa_ c_=>match a_ with
 | [.fl q_0,.fl q_1,.fl q_2,.fl q_3]=>SZ81 q_0 q_1 q_2 q_3 (λr0 r1 r2 r3 r4=>c_ (.tup [.agg [.flt r0,.flt r1,.flt r2,.flt r3],vwi r4]) [])
 | _=>false
abbrev wu (SZ81:m4):Fs:=az V3 (Xw SZ81)
def VT:FnSh:=⟨[.agg [.flt,.flt,.flt],.agg [.flt,.flt,.flt]],[]⟩
def Xm (SZ71:mZ):SPT:=λa_ c_=>match a_ with
 | [.fl a_0,.fl a_1,.fl a_2,.fl b_0,.fl b_1,.fl b_2]=>SZ71 a_0 a_1 a_2 b_0 b_1 b_2 (λr0 r1 r2=>c_ (.agg [.flt r0,.flt r1,.flt r2]) [])
 | _=>false
abbrev wt (SZ71:mZ):Fs:=az VT (Xm SZ71)
def MZ:FnSh:=⟨[.agg [.flt,.flt,.flt]],[]⟩
def H3 (SZ188:tJ):SPT:=λa_ c_=>match a_ with
 | [.fl v_0,.fl v_1,.fl v_2]=>SZ188 v_0 v_1 v_2 (λr0 r1 r2 r3=>c_ (.tup [.agg [.flt r0,.flt r1,.flt r2],vwi r3]) [])
 | _=>false
abbrev Jp (SZ188:tJ):Fs:=az MZ (H3 SZ188)
def L5:FnSh:=⟨[.agg [.flt,.flt,.flt,.flt],.agg [.flt,.flt,.flt]],[]⟩
def GW (SZ120:lr):SPT:=λa_ c_=>match a_ with
 | [.fl q_0,.fl q_1,.fl q_2,.fl q_3,.fl v_0,.fl v_1,.fl v_2]=>SZ120 q_0 q_1 q_2 q_3 v_0 v_1 v_2 (λr0 r1 r2 r3=>c_ (.tup [.agg [.flt r0,.flt r1,.flt r2],vwi r3]) [])
 | _=>false
abbrev wo (SZ120:lr):Fs:=az L5 (GW SZ120)
def Mf:FnSh:=⟨[.ro 4 [.flt,.flt,.flt,.flt,.flt,.flt,.flt,.flt]],[]⟩
def Hb (SZ134:sN):SPT:=λa_ c_=>match a_ with
 | [.fl ao_,.fl apa,.fl apb,.fl apc,.fl apH,.fl apI,.fl apJ,.fl apK]=>SZ134 ao_ apa apb apc apH apI apJ apK (λr0=>c_ (.bool r0) [])
 | _=>false
abbrev IK (SZ134:sN):Fs:=az Mf (Hb SZ134)
def M9:FnSh:=⟨[.agg [.flt,.flt,.flt,.flt],.agg [.flt,.flt,.flt,.flt]],[]⟩
def H_ (SZ195:tP):SPT:=λa_ c_=>match a_ with
 | [.fl a_0,.fl a_1,.fl a_2,.fl a_3,.fl b_0,.fl b_1,.fl b_2,.fl b_3]=>SZ195 a_0 a_1 a_2 a_3 b_0 b_1 b_2 b_3 (λr0 r1 r2 r3=>c_ (.agg [.flt r0,.flt r1,.flt r2,.flt r3]) [])
 | _=>false
abbrev Jv (SZ195:tP):Fs:=az M9 (H_ SZ195)
def MN:FnSh:=⟨[.agg [.flt,.flt,.flt,.flt]],[]⟩
def HQ (SZ175:tA):SPT:=λa_ c_=>match a_ with
 | [.fl q_0,.fl q_1,.fl q_2,.fl q_3]=>SZ175 q_0 q_1 q_2 q_3 (λr0 r1 r2 r3 r4=>c_ (.tup [.agg [.flt r0,.flt r1,.flt r2,.flt r3],vwi r4]) [])
 | _=>false
abbrev Jg (SZ175:tA):Fs:=az MN (HQ SZ175)
def M6:FnSh:=⟨[.agg [.flt,.flt,.flt,.flt],.agg [.flt,.flt,.flt,.flt]],[]⟩
def H7 (SZ192:tM):SPT:=λa_ c_=>match a_ with
 | [.fl a_0,.fl a_1,.fl a_2,.fl a_3,.fl b_0,.fl b_1,.fl b_2,.fl b_3]=>SZ192 a_0 a_1 a_2 a_3 b_0 b_1 b_2 b_3 (λr0 r1 r2 r3 r4=>c_ (.tup [.agg [.flt r0,.flt r1,.flt r2,.flt r3],vwi r4]) [])
 | _=>false
abbrev Js (SZ192:tM):Fs:=az M6 (H7 SZ192)
def abS:FnSh:=⟨[.flt],[]⟩
def HN (SZ172:tu):SPT:=λa_ c_=>match a_ with
 | [.fl x]=>SZ172 x (λr0=>c_ (vwi r0) [])
 | _=>false
abbrev Jd (SZ172:tu):Fs:=az abS (HN SZ172)
def LP:FnSh:=⟨[.rof],[]⟩
def GL (SZ109:li):SPT:=λa_ c_=>match a_ with
 | [.fls l]=>SZ109 l (λr0=>c_ (.bool r0) [])
 | _=>false
abbrev y7 (SZ109:li):Fs:=az LP (GL SZ109)
def Nh:FnSh:=⟨[.int .u64],[]⟩
def aht (SZ8:yD):SPT:=λa_ c_=>match a_ with
 | [.int x]=>SZ8 x (λr0=>c_ (vwi r0) [])
 | _=>false
abbrev FZ8 (SZ8:yD):Fs:=az Nh (aht SZ8)
def yd:FnSh:=⟨[.int .u64,.agg [.int .u64,.int .i64,.int .i64]],[]⟩
def Xx (SZ82:Ac):SPT:=λa_ c_=>match a_ with
 | [.int b,.int f_0,.int f_1,.int f_2]=>SZ82 b f_0 f_1 f_2 (λr0 r1 r2 r3=>c_ (.tup [.agg [.bool r0,vwu r1,vwi r2],vwi r3]) [])
 | _=>false
abbrev YF (SZ82:Ac):Fs:=az yd (Xx SZ82)
def M4:FnSh:=⟨[.flt],[]⟩
def H5 (SZ190:tK):SPT:=λa_ c_=>match a_ with
 | [.fl x]=>SZ190 x (λr0 r1 r2 r3=>c_ (.tup [.agg [.bool r0,vwu r1,vwi r2],vwi r3]) [])
 | _=>false
abbrev Jq (SZ190:tK):Fs:=az M4 (H5 SZ190)
def ade:FnSh:=⟨[.slw 0],[some (22,1,.ints .u64)]⟩
def aho (SZ3:gY):SPT:=λa_ c_=>match a_ with
 | [.ints b]=>SZ3 b (λr0 r1=>c_ (.sl 0 r0 r1) [⟨22,1,.ints .u64 b⟩])
 | _=>false
abbrev FZ3 (SZ3:gY):Fs:=az ade (aho SZ3)
def Mz:FnSh:=⟨[.int .u64],[]⟩
def Hy (SZ157:lD):SPT:=λa_ c_=>match a_ with
 | [.int n]=>SZ157 n (λr0=>c_ (vwr r0) [])
 | _=>false
abbrev zl (SZ157:lD):Fs:=az Mz (Hy SZ157)
def adc:FnSh:=⟨[.ptr 0 0,.bool,.roi .u64],[some (126,1,.cells [.bool,.nil])]⟩
def ahn (SZ2:gu):SPT:=λa_ c_=>match a_ with
 | [.bool neg,.ints abs,.bool b]=>SZ2 neg abs b (λr0=>c_ (.ptr 0 0) [⟨126,1,.cells [.bool r0,vwr abs]⟩])
 | _=>false
abbrev FZ2 (SZ2:gu):Fs:=az adc (ahn SZ2)
def VL:FnSh:=⟨[.ptr 0 0,.int .u64],[some (126,1,.cells [.bool,.nil])]⟩
def Xe (SZ63:z7):SPT:=λa_ c_=>match a_ with
 | [.int n,.bool b]=>SZ63 n b (λr0 r1=>c_ (.ptr 0 0) [⟨126,1,.cells [.bool r0,vwr r1]⟩])
 | _=>false
abbrev Yx (SZ63:z7):Fs:=az VL (Xe SZ63)
def V9:FnSh:=⟨[.roi .u64],[]⟩
def XE (SZ91:jR):SPT:=λa_ c_=>match a_ with
 | [.ints x]=>SZ91 x (λr0=>c_ (vwr r0) [])
 | _=>false
abbrev yA (SZ91:jR):Fs:=az V9 (XE SZ91)
def Vq:FnSh:=⟨[.ptr 0 0,.bool,.roi .u64],[some (126,1,.cells [.bool,.roi .u64])]⟩
def WS (SZ42:mA):SPT:=λa_ c_=>match a_ with
 | [.bool neg,.ints abs,.bool b,.ints b_1]=>SZ42 neg abs b b_1 (λr0=>c_ (.ptr 0 0) [⟨126,1,.cells [.bool r0,vwr abs]⟩])
 | _=>false
abbrev Ch (SZ42:mA):Fs:=az Vq (WS SZ42)
def Vi:FnSh:=⟨[.ptr 0 0,.ptr 0 0],[some (126,1,.cells [.bool,.roi .u64])]⟩
def WK (SZ34:qA):SPT:=λa_ c_=>match a_ with
 | [.bool b,.ints b_1]=>SZ34 b b_1 (λr0 r1=>c_ (.ptr 0 0) [⟨126,1,.cells [.bool r0,vwr r1]⟩])
 | _=>false
abbrev Nt (SZ34:qA):Fs:=az Vi (WK SZ34)
def MW:FnSh:=⟨[.flt],[]⟩
def HZ (SZ184:tH):SPT:=λa_ c_=>match a_ with
 | [.fl x]=>SZ184 x (λr0 r1 r2=>c_ (.agg [.ptr 0 0,vwi r0]) [⟨126,1,.cells [.bool r1,vwr r2]⟩])
 | _=>false
abbrev Jn (SZ184:tH):Fs:=az MW (HZ SZ184)
def Mj:FnSh:=⟨[.int .u64,.int .u64],[]⟩
def Hf (SZ138:sP):SPT:=λa_ c_=>match a_ with
 | [.int x,.int y]=>SZ138 x y (λr0 r1=>c_ (.tup [vwu r0,vwu r1]) [])
 | _=>false
abbrev IM (SZ138:sP):Fs:=az Mj (Hf SZ138)
def ahk:FnSh:=⟨[.int .u64,.int .u64,.int .u64],[]⟩
def adk (SZ86:qK):SPT:=λa_ c_=>match a_ with
 | [.int a0,.int a1,.int a2]=>SZ86 a0 a1 a2 (λr0 r1=>c_ (.tup [vwu r0,vwu r1]) [])
 | _=>false
abbrev PH (SZ86:qK):Fs:=az ahk (adk SZ86)
def Mb:FnSh:=⟨[.int .u64,.int .u64,.int .u64,.int .u64],[]⟩
def G8 (SZ130:sM):SPT:=λa_ c_=>match a_ with
 | [.int a,.int b,.int c,.int d]=>SZ130 a b c d (λr0 r1=>c_ (.tup [vwu r0,vwu r1]) [])
 | _=>false
abbrev II (SZ130:sM):Fs:=az Mb (G8 SZ130)
def MH:FnSh:=⟨[.roi .u64,.roi .u64],[]⟩
def HI (SZ167:tm):SPT:=λa_ c_=>match a_ with
 | [.ints x,.ints y]=>SZ167 x y (λr0=>c_ (vwr r0) [])
 | _=>false
abbrev I9 (SZ167:tm):Fs:=az MH (HI SZ167)
def VO:FnSh:=⟨[.ptr 0 0,.ptr 1 0,.ptr 2 0],[some (126,1,.cells [.bool,.nil]),some (126,1,.cells [.bool,.roi .u64]),some (126,1,.cells [.bool,.roi .u64])]⟩
def Xh (SZ66:z8):SPT:=λa_ c_=>match a_ with
 | [.bool b,.bool b_1,.ints b_2,.bool b_3,.ints b_4]=>SZ66 b b_1 b_2 b_3 b_4 (λr0 r1=>c_ (.ptr 0 0) [⟨126,1,.cells [.bool r0,vwr r1]⟩,⟨126,1,.cells [.bool b_1,vwr b_2]⟩,⟨126,1,.cells [.bool b_3,vwr b_4]⟩])
 | _=>false
abbrev Yy (SZ66:z8):Fs:=az VO (Xh SZ66)
def U_:FnSh:=⟨[.agg [.ptr 0 0,.int .i64],.agg [.ptr 1 0,.int .i64]],[some (126,1,.cells [.bool,.roi .u64]),some (126,1,.cells [.bool,.roi .u64])]⟩
def Wy (SZ22:zJ):SPT:=λa_ c_=>match a_ with
 | [.int x,.int y,.bool b,.ints b_1,.bool b_2,.ints b_3]=>SZ22 x y b b_1 b_2 b_3 (λr0 r5 r6=>c_ (.agg [.ptr 2 0,vwi r0]) [⟨126,1,.cells [.bool b,vwr b_1]⟩,⟨126,1,.cells [.bool b_2,vwr b_3]⟩,⟨126,1,.cells [.bool r5,vwr r6]⟩])
 | _=>false
abbrev Yf (SZ22:zJ):Fs:=az U_ (Wy SZ22)
def Gu:FnSh:=⟨[.ptr 0 0],[some (126,1,.cells [.bool,.nil])]⟩
def XJ (SZ96:Aj):SPT:=λa_ c_=>match a_ with
 | [.bool b]=>SZ96 b (λr0 r2=>c_ (vwi r0) [⟨126,1,.cells [.bool b,vwr r2]⟩])
 | _=>false
abbrev YL (SZ96:Aj):Fs:=az Gu (XJ SZ96)
def adg:FnSh:=⟨[.ptr 0 0],[some (126,1,.cells [.bool,.roi .u64])]⟩
def ahq (SZ5:mL):SPT:=λa_ c_=>match a_ with
 | [.bool b,.ints b_1]=>SZ5 b b_1 (λr0=>c_ (vwi r0) [⟨126,1,.cells [.bool b,vwr b_1]⟩])
 | _=>false
abbrev FZ5 (SZ5:mL):Fs:=az adg (ahq SZ5)
def Mc:FnSh:=⟨[.roi .u64,.int .u64],[]⟩
def G9 (SZ131:iU):SPT:=λa_ c_=>match a_ with
 | [.ints x,.int n]=>SZ131 x n (λr0=>c_ (vwr r0) [])
 | _=>false
abbrev uT (SZ131:iU):Fs:=az Mc (G9 SZ131)
def VY:FnSh:=⟨[.ptr 0 0,.ptr 1 0,.int .u64],[some (126,1,.cells [.bool,.nil]),some (126,1,.cells [.bool,.roi .u64])]⟩
def Xr (SZ76:Ab):SPT:=λa_ c_=>match a_ with
 | [.int n,.bool b,.bool b_1,.ints b_2]=>SZ76 n b b_1 b_2 (λr0 r1=>c_ (.ptr 0 0) [⟨126,1,.cells [.bool r0,vwr r1]⟩,⟨126,1,.cells [.bool b_1,vwr b_2]⟩])
 | _=>false
abbrev YE (SZ76:Ab):Fs:=az VY (Xr SZ76)
def Vr:FnSh:=⟨[.agg [.ptr 0 0,.int .i64],.int .i64],[some (126,1,.cells [.bool,.roi .u64])]⟩
def WT (SZ43:qD):SPT:=λa_ c_=>match a_ with
 | [.int x,.int e,.bool b,.ints b_1]=>SZ43 x e b b_1 (λr2 r3=>c_ (.ptr 1 0) [⟨126,1,.cells [.bool b,vwr b_1]⟩,⟨126,1,.cells [.bool r2,vwr r3]⟩])
 | _=>false
abbrev Ny (SZ43:qD):Fs:=az Vr (WT SZ43)
def Va:FnSh:=⟨[.roi .u64,.int .i64],[]⟩
def WA (SZ24:fL):SPT:=λa_ c_=>match a_ with
 | [.ints x,.int i]=>SZ24 x i (λr0=>c_ (vwu r0) [])
 | _=>false
abbrev qu (SZ24:fL):Fs:=az Va (WA SZ24)
def MT:FnSh:=⟨[.roi .u64,.roi .u64],[]⟩
def HW (SZ181:lF):SPT:=λa_ c_=>match a_ with
 | [.ints x,.ints y]=>SZ181 x y (λr0=>c_ (vwr r0) [])
 | _=>false
abbrev zn (SZ181:lF):Fs:=az MT (HW SZ181)
def Mr:FnSh:=⟨[.roi .u64,.roi .u64],[]⟩
def Hn (SZ146:sU):SPT:=λa_ c_=>match a_ with
 | [.ints x,.ints y]=>SZ146 x y (λr0=>c_ (vwi r0) [])
 | _=>false
abbrev IV (SZ146:sU):Fs:=az Mr (Hn SZ146)
def abQ:FnSh:=⟨[.int .u64,.int .u64,.int .u64],[]⟩
def Wk (SZ122:sI):SPT:=λa_ c_=>match a_ with
 | [.int a0,.int a1,.int a2]=>SZ122 a0 a1 a2 (λr0 r1=>c_ (.tup [vwu r0,vwu r1]) [])
 | _=>false
abbrev PA (SZ122:sI):Fs:=az abQ (Wk SZ122)
def MY:FnSh:=⟨[.roi .u64,.roi .u64],[]⟩
def H1 (SZ187:tI):SPT:=λa_ c_=>match a_ with
 | [.ints x,.ints y]=>SZ187 x y (λr0=>c_ (vwr r0) [])
 | _=>false
abbrev Jo (SZ187:tI):Fs:=az MY (H1 SZ187)
def VW:FnSh:=⟨[.ptr 0 0,.ptr 1 0,.bool,.roi .u64],[some (126,1,.cells [.bool,.nil]),some (126,1,.cells [.bool,.roi .u64])]⟩
def Xp (SZ74:Aa):SPT:=λa_ c_=>match a_ with
 | [.bool neg,.ints y,.bool b,.bool b_1,.ints b_2]=>SZ74 neg y b b_1 b_2 (λr0 r1=>c_ (.ptr 0 0) [⟨126,1,.cells [.bool r0,vwr r1]⟩,⟨126,1,.cells [.bool b_1,vwr b_2]⟩])
 | _=>false
abbrev YD (SZ74:Aa):Fs:=az VW (Xp SZ74)
def Vj:FnSh:=⟨[.ptr 0 0,.ptr 1 0,.ptr 2 0],[some (126,1,.cells [.bool,.nil]),some (126,1,.cells [.bool,.roi .u64]),some (126,1,.cells [.bool,.roi .u64])]⟩
def WL (SZ35:qB):SPT:=λa_ c_=>match a_ with
 | [.bool b,.bool b_1,.ints b_2,.bool b_3,.ints b_4]=>SZ35 b b_1 b_2 b_3 b_4 (λr0 r1=>c_ (.ptr 0 0) [⟨126,1,.cells [.bool r0,vwr r1]⟩,⟨126,1,.cells [.bool b_1,vwr b_2]⟩,⟨126,1,.cells [.bool b_3,vwr b_4]⟩])
 | _=>false
abbrev Nu (SZ35:qB):Fs:=az Vj (WL SZ35)
def Gp:FnSh:=⟨[.agg [.ptr 0 0,.int .i64],.agg [.ptr 1 0,.int .i64]],[some (126,1,.cells [.bool,.nil]),some (126,1,.cells [.bool,.roi .u64])]⟩
def WB (SZ25:zK):SPT:=λa_ c_=>match a_ with
 | [.int x,.int y,.bool b,.bool b_1,.ints b_2]=>SZ25 x y b b_1 b_2 (λr2=>c_ (.agg [.ptr 1 0,vwi y]) [⟨126,1,.cells [.bool b,vwr r2]⟩,⟨126,1,.cells [.bool b_1,vwr b_2]⟩]) (λr2=>c_ (.agg [.ptr 0 0,vwi x]) [⟨126,1,.cells [.bool b,vwr r2]⟩,⟨126,1,.cells [.bool b_1,vwr b_2]⟩]) (λr0 r2 r5 r6=>c_ (.agg [.ptr 2 0,vwi r0]) [⟨126,1,.cells [.bool b,vwr r2]⟩,⟨126,1,.cells [.bool b_1,vwr b_2]⟩,⟨126,1,.cells [.bool r5,vwr r6]⟩])
 | _=>false
abbrev Yg (SZ25:zK):Fs:=az Gp (WB SZ25)
def adh:FnSh:=⟨[.agg [.ptr 0 0,.int .i64],.agg [.ptr 1 0,.int .i64]],[some (126,1,.cells [.bool,.roi .u64]),some (126,1,.cells [.bool,.roi .u64])]⟩
def ahr (SZ6:vF):SPT:=λa_ c_=>match a_ with
 | [.int x,.int y,.bool b,.ints b_1,.bool b_2,.ints b_3]=>SZ6 x y b b_1 b_2 b_3 (c_ (.agg [.ptr 1 0,vwi y]) [⟨126,1,.cells [.bool b,vwr b_1]⟩,⟨126,1,.cells [.bool b_2,vwr b_3]⟩]) (c_ (.agg [.ptr 0 0,vwi x]) [⟨126,1,.cells [.bool b,vwr b_1]⟩,⟨126,1,.cells [.bool b_2,vwr b_3]⟩]) (λr0 r5 r6=>c_ (.agg [.ptr 2 0,vwi r0]) [⟨126,1,.cells [.bool b,vwr b_1]⟩,⟨126,1,.cells [.bool b_2,vwr b_3]⟩,⟨126,1,.cells [.bool r5,vwr r6]⟩])
 | _=>false
abbrev FZ6 (SZ6:vF):Fs:=az adh (ahr SZ6)
def Vu:FnSh:=⟨[.ptr 0 0,.ptr 1 0],[some (126,1,.cells [.bool,.nil]),some (126,1,.cells [.bool,.roi .u64])]⟩
def WW (SZ46:zS):SPT:=λa_ c_=>match a_ with
 | [.bool b,.bool b_1,.ints b_2]=>SZ46 b b_1 b_2 (λr0 r1=>c_ (.ptr 0 0) [⟨126,1,.cells [.bool r0,vwr r1]⟩,⟨126,1,.cells [.bool b_1,vwr b_2]⟩])
 | _=>false
abbrev Yo (SZ46:zS):Fs:=az Vu (WW SZ46)
def VP:FnSh:=⟨[.ptr 0 0,.int .i64],[some (126,1,.cells [.bool,.roi .u64])]⟩
def Xi (SZ67:z9):SPT:=λa_ c_=>match a_ with
 | [.int i,.bool b,.ints b_1]=>SZ67 i b b_1 (λr0=>c_ (vwu r0) [⟨126,1,.cells [.bool b,vwr b_1]⟩])
 | _=>false
abbrev Yz (SZ67:z9):Fs:=az VP (Xi SZ67)
def UW:FnSh:=⟨[.ptr 0 0],[some (126,1,.cells [.bool,.roi .u64])]⟩
def Wj (SZ12:zH):SPT:=λa_ c_=>match a_ with
 | [.bool b,.ints b_1]=>SZ12 b b_1 (λr0=>c_ (vwu r0) [⟨126,1,.cells [.bool b,vwr b_1]⟩])
 | _=>false
abbrev Yc (SZ12:zH):Fs:=az UW (Wj SZ12)
def ME:FnSh:=⟨[.roi .u64,.int .u64],[]⟩
def HE (SZ163:tg):SPT:=λa_ c_=>match a_ with
 | [.ints x,.int n]=>SZ163 x n (λr0 r1=>c_ (.tup [vwr r0,.bool r1]) [])
 | _=>false
abbrev I5 (SZ163:tg):Fs:=az ME (HE SZ163)
def U8:FnSh:=⟨[.ptr 0 0,.ptr 0 0,.int .u64],[some (126,1,.cells [.bool,.roi .u64])]⟩
def Wv (SZ20:qy):SPT:=λa_ c_=>match a_ with
 | [.int n,.bool b,.ints b_1]=>SZ20 n b b_1 (λr0 r1=>c_ (.ptr 0 0) [⟨126,1,.cells [.bool r0,vwr r1]⟩])
 | _=>false
abbrev Nr (SZ20:qy):Fs:=az U8 (Wv SZ20)
def Vc:FnSh:=⟨[.agg [.ptr 0 0,.int .i64]],[some (126,1,.cells [.bool,.roi .u64])]⟩
def WD (SZ27:zL):SPT:=λa_ c_=>match a_ with
 | [.int x,.bool b,.ints b_1]=>SZ27 x b b_1 (λr0 r3 r4=>c_ (.agg [.ptr 1 0,vwi r0]) [⟨126,1,.cells [.bool b,vwr b_1]⟩,⟨126,1,.cells [.bool r3,vwr r4]⟩])
 | _=>false
abbrev Yh (SZ27:zL):Fs:=az Vc (WD SZ27)
def rR:FnSh:=⟨[.int .u64],[]⟩
def GX (SZ121:sH):SPT:=λa_ c_=>match a_ with
 | [.int x]=>SZ121 x (λr0=>c_ (vwi r0) [])
 | _=>false
abbrev IC (SZ121:sH):Fs:=az rR (GX SZ121)
def MF:FnSh:=⟨[.roi .u64],[]⟩
def HG (SZ165:ti):SPT:=λa_ c_=>match a_ with
 | [.ints x]=>SZ165 x (λr0=>c_ (vwi r0) [])
 | _=>false
abbrev I7 (SZ165:ti):Fs:=az MF (HG SZ165)
def Vw:FnSh:=⟨[.ptr 0 0],[some (126,1,.cells [.bool,.roi .u64])]⟩
def WY (SZ48:zU):SPT:=λa_ c_=>match a_ with
 | [.bool b,.ints b_1]=>SZ48 b b_1 (λr0=>c_ (vwi r0) [⟨126,1,.cells [.bool b,vwr b_1]⟩])
 | _=>false
abbrev Yq (SZ48:zU):Fs:=az Vw (WY SZ48)
def VQ:FnSh:=⟨[.ptr 0 0,.int .i64],[some (126,1,.cells [.bool,.nil])]⟩
def Xj (SZ68:z_):SPT:=λa_ c_=>match a_ with
 | [.int n,.bool b]=>SZ68 n b (λr0 r1=>c_ (.ptr 0 0) [⟨126,1,.cells [.bool r0,vwr r1]⟩])
 | _=>false
abbrev YA (SZ68:z_):Fs:=az VQ (Xj SZ68)
def VV:FnSh:=⟨[.int .i64],[]⟩
def Xo (SZ73:qI):SPT:=λa_ c_=>match a_ with
 | [.int n]=>SZ73 n (λr0 r1=>c_ (.ptr 0 0) [⟨126,1,.cells [.bool r0,vwr r1]⟩])
 | _=>false
abbrev NF (SZ73:qI):Fs:=az VV (Xo SZ73)
def Vv:FnSh:=⟨[.ptr 0 0,.ptr 1 0],[some (126,1,.cells [.bool,.nil]),some (126,1,.cells [.bool,.roi .u64])]⟩
def WX (SZ47:zT):SPT:=λa_ c_=>match a_ with
 | [.bool b,.bool b_1,.ints b_2]=>SZ47 b b_1 b_2 (λr0 r1=>c_ (.ptr 0 0) [⟨126,1,.cells [.bool r0,vwr r1]⟩,⟨126,1,.cells [.bool b_1,vwr b_2]⟩])
 | _=>false
abbrev Yp (SZ47:zT):Fs:=az Vv (WX SZ47)
def VD:FnSh:=⟨[.ptr 0 0,.bool,.sl 1],[some (126,1,.cells [.bool,.nil]),some (22,1,.ints .u64)]⟩
def W5 (SZ52:zW):SPT:=λa_ c_=>match a_ with
 | [.bool neg,.nat aov,.nat aog,.bool b,.ints b_1]=>SZ52 neg aov aog b b_1 (λr0=>c_ (.ptr 0 0) [⟨126,1,.cells [.bool r0,.sl 1 aov aog]⟩,⟨22,1,.ints .u64 b_1⟩])
 | _=>false
abbrev Yt (SZ52:zW):Fs:=az VD (W5 SZ52)
def Vf:FnSh:=⟨[.ptr 0 0,.ptr 1 0,.ptr 2 0],[some (126,1,.cells [.bool,.nil]),some (126,1,.cells [.bool,.roi .u64]),some (126,1,.cells [.bool,.roi .u64])]⟩
def WH (SZ31:zN):SPT:=λa_ c_=>match a_ with
 | [.bool b,.bool b_1,.ints b_2,.bool b_3,.ints b_4]=>SZ31 b b_1 b_2 b_3 b_4 (λr0 r1=>c_ (.ptr 0 0) [⟨126,1,.cells [.bool r0,vwr r1]⟩,⟨126,1,.cells [.bool b_1,vwr b_2]⟩,⟨126,1,.cells [.bool b_3,vwr b_4]⟩])
 | _=>false
abbrev Yk (SZ31:zN):Fs:=az Vf (WH SZ31)
def Nc:FnSh:=⟨[.roi .u64],[]⟩
def Ig (SZ201:tV):SPT:=λa_ c_=>match a_ with
 | [.ints x]=>SZ201 x (λr0=>c_ (vwu r0) [])
 | _=>false
abbrev JA (SZ201:tV):Fs:=az Nc (Ig SZ201)
def VA:FnSh:=⟨[.ptr 0 0],[some (126,1,.cells [.bool,.roi .u64])]⟩
def WZ (SZ49:zV):SPT:=λa_ c_=>match a_ with
 | [.bool b,.ints b_1]=>SZ49 b b_1 (λr0=>c_ (vwu r0) [⟨126,1,.cells [.bool b,vwr b_1]⟩])
 | _=>false
abbrev Yr (SZ49:zV):Fs:=az VA (WZ SZ49)
def U5:FnSh:=⟨[.agg [.ptr 0 0,.int .i64]],[some (126,1,.cells [.bool,.roi .u64])]⟩
def Wr (SZ17:qw):SPT:=λa_ c_=>match a_ with
 | [.int x,.bool b,.ints b_1]=>SZ17 x b b_1 (λr0 r1 r2=>c_ (.tup [.agg [.bool r0,.nil,vwi r1],vwi r2]) [⟨126,1,.cells [.bool b,vwr b_1]⟩]) (λr0 r1 r2 r5=>c_ (.tup [.agg [.bool r0,.slw 1,vwi r1],vwi r2]) [⟨126,1,.cells [.bool b,vwr b_1]⟩,⟨87,1,.ints .u32 r5⟩])
 | _=>false
abbrev Nm (SZ17:qw):Fs:=az U5 (Wr SZ17)
def LH:FnSh:=⟨[.rof,.rof],[]⟩
def GF (SZ102:kt):SPT:=λa_ c_=>match a_ with
 | [.fls a,.fls b]=>SZ102 a b (λr0 r1 r2=>c_ (.tup [.agg [.bool r0,.nil,vwi r1],vwi r2]) []) (λr0 r1 r2 r3=>c_ (.tup [.agg [.bool r0,.slw 0,vwi r1],vwi r2]) [⟨87,1,.ints .u32 r3⟩])
 | _=>false
abbrev Iu (SZ102:kt):Fs:=az LH (GF SZ102)
def My:FnSh:=⟨[.agg [.bool,.roi .u32,.int .i64]],[]⟩
def Hx (SZ156:lC):SPT:=λa_ c_=>match a_ with
 | [.bool d_0,.ints d_1,.int d_2]=>SZ156 d_0 d_1 d_2 (λr0=>c_ (.bool r0) [])
 | _=>false
abbrev zk (SZ156:lC):Fs:=az My (Hx SZ156)
def Gs:FnSh:=⟨[.ptr 0 0,.ptr 0 0,.int .u64],[some (126,1,.cells [.bool,.nil])]⟩
def W7 (SZ54:zY):SPT:=λa_ c_=>match a_ with
 | [.int n,.bool b]=>SZ54 n b (λr0 r1=>c_ (.ptr 0 0) [⟨126,1,.cells [.bool r0,vwr r1]⟩])
 | _=>false
abbrev Yv (SZ54:zY):Fs:=az Gs (W7 SZ54)
def VE:FnSh:=⟨[.ptr 0 0,.bool,.sl 1],[some (126,1,.cells [.bool,.roi .u64]),some (22,1,.ints .u64)]⟩
def W6 (SZ53:zX):SPT:=λa_ c_=>match a_ with
 | [.bool neg,.nat aov,.nat aog,.bool b,.ints b_1,.ints b_2]=>SZ53 neg aov aog b b_1 b_2 (λr0=>c_ (.ptr 0 0) [⟨126,1,.cells [.bool r0,.sl 1 aov aog]⟩,⟨22,1,.ints .u64 b_2⟩])
 | _=>false
abbrev Yu (SZ53:zX):Fs:=az VE (W6 SZ53)
def Vo:FnSh:=⟨[.ptr 0 0,.ptr 0 0,.ptr 1 0],[some (126,1,.cells [.bool,.roi .u64]),some (126,1,.cells [.bool,.roi .u64])]⟩
def WQ (SZ40:zQ):SPT:=λa_ c_=>match a_ with
 | [.bool b,.ints b_1,.bool b_2,.ints b_3]=>SZ40 b b_1 b_2 b_3 (λr0 r1=>c_ (.ptr 0 0) [⟨126,1,.cells [.bool r0,vwr r1]⟩,⟨126,1,.cells [.bool b_2,vwr b_3]⟩])
 | _=>false
abbrev Yn (SZ40:zQ):Fs:=az Vo (WQ SZ40)
def VF:FnSh:=⟨[.ptr 0 0,.ptr 0 0,.int .u64],[some (126,1,.cells [.bool,.roi .u64])]⟩
def W8 (SZ55:zZ):SPT:=λa_ c_=>match a_ with
 | [.int n,.bool b,.ints b_1]=>SZ55 n b b_1 (λr0 r1=>c_ (.ptr 0 0) [⟨126,1,.cells [.bool r0,vwr r1]⟩])
 | _=>false
abbrev Yw (SZ55:zZ):Fs:=az VF (W8 SZ55)
def Ml:FnSh:=⟨[.agg [.bool,.roi .u32,.int .i64]],[]⟩
def Hh (SZ140:lw):SPT:=λa_ c_=>match a_ with
 | [.bool d_0,.ints d_1,.int d_2]=>SZ140 d_0 d_1 d_2 (λr1 r2=>c_ (.agg [.ptr 0 0,vwi d_2]) [⟨126,1,.cells [.bool r1,vwr r2]⟩])
 | _=>false
abbrev zf (SZ140:lw):Fs:=az Ml (Hh SZ140)
def VC:FnSh:=⟨[.ptr 0 0,.ptr 1 0],[some (126,1,.cells [.bool,.nil]),some (126,1,.cells [.bool,.roi .u64])]⟩
def W4 (SZ51:qE):SPT:=λa_ c_=>match a_ with
 | [.bool b,.bool b_1,.ints b_2]=>SZ51 b b_1 b_2 (λr0 r1=>c_ (.ptr 0 0) [⟨126,1,.cells [.bool r0,vwr r1]⟩,⟨126,1,.cells [.bool b_1,vwr b_2]⟩])
 | _=>false
abbrev Nz (SZ51:qE):Fs:=az VC (W4 SZ51)
def V7:FnSh:=⟨[.agg [.ptr 0 0,.int .i64],.agg [.ptr 1 0,.int .i64]],[some (126,1,.cells [.bool,.roi .u64]),some (126,1,.cells [.bool,.roi .u64])]⟩
def XB (SZ87:Ad):SPT:=λa_ c_=>match a_ with
 | [.int x,.int y,.bool b,.ints b_1,.bool b_2,.ints b_3]=>SZ87 x y b b_1 b_2 b_3 (λr0 r5 r6=>c_ (.agg [.ptr 2 0,vwi r0]) [⟨126,1,.cells [.bool b,vwr b_1]⟩,⟨126,1,.cells [.bool b_2,vwr b_3]⟩,⟨126,1,.cells [.bool r5,vwr r6]⟩]) (c_ (.agg [.ptr 0 0,vwi x]) [⟨126,1,.cells [.bool b,vwr b_1]⟩,⟨126,1,.cells [.bool b_2,vwr b_3]⟩])
 | _=>false
abbrev YG (SZ87:Ad):Fs:=az V7 (XB SZ87)
def Ms:FnSh:=⟨[.agg [.bool,.roi .u32,.int .i64],.agg [.bool,.roi .u32,.int .i64],.fn 90 []],[]⟩
def Hq (SZ149:sY):SPT:=λa_ c_=>match a_ with
 | [.bool a_0,.ints a_1,.int a_2,.bool b_0,.ints b_1,.int b_2]=>SZ149 a_0 a_1 a_2 b_0 b_1 b_2 (λr0 r1 r2=>c_ (.tup [.agg [.bool r0,.nil,vwi r1],vwi r2]) []) (λr0 r1 r2 r3=>c_ (.tup [.agg [.bool r0,.slw 0,vwi r1],vwi r2]) [⟨87,1,.ints .u32 r3⟩])
 | _=>false
abbrev IY (SZ149:sY):Fs:=az Ms (Hq SZ149)
def LM:FnSh:=⟨[.agg [.bool,.roi .u32,.int .i64],.agg [.bool,.roi .u32,.int .i64]],[]⟩
def GH (SZ104:ku):SPT:=λa_ c_=>match a_ with
 | [.bool a_0,.ints a_1,.int a_2,.bool b_0,.ints b_1,.int b_2]=>SZ104 a_0 a_1 a_2 b_0 b_1 b_2 (λr0 r1 r2=>c_ (.tup [.agg [.bool r0,.nil,vwi r1],vwi r2]) []) (λr0 r1 r2 r3=>c_ (.tup [.agg [.bool r0,.slw 0,vwi r1],vwi r2]) [⟨87,1,.ints .u32 r3⟩])
 | _=>false
abbrev Iw (SZ104:ku):Fs:=az LM (GH SZ104)
def VB:FnSh:=⟨[.agg [.bool,.roi .u32,.int .i64],.agg [.bool,.roi .u32,.int .i64]],[]⟩
def W3 (SZ50:oU):SPT:=λa_ c_=>match a_ with
 | [.bool a_0,.ints a_1,.int a_2,.bool b_0,.ints b_1,.int b_2]=>SZ50 a_0 a_1 a_2 b_0 b_1 b_2 (λr0 r1=>c_ (.tup [vwi r0,vwi r1]) [])
 | _=>false
abbrev Ys (SZ50:oU):Fs:=az VB (W3 SZ50)
def rT:FnSh:=⟨[.agg [.flt,.flt,.flt,.flt]],[]⟩
def Hp (SZ148:sX):SPT:=λa_ c_=>match a_ with
 | [.fl q_0,.fl q_1,.fl q_2,.fl q_3]=>SZ148 q_0 q_1 q_2 q_3 (λr0=>c_ (.bool r0) [])
 | _=>false
abbrev IX (SZ148:sX):Fs:=az rT (Hp SZ148)
def Wf:FnSh:=⟨[],[]⟩
def XM (SZ99:Ak):SPT:=λa_ c_=>match a_ with
 | []=>SZ99 (λr0 r1 r2 r3=>c_ (.agg [.flt r0,.flt r1,.flt r2,.flt r3]) [])
 | _=>false
abbrev YM (SZ99:Ak):Fs:=az Wf (XM SZ99)
def VI:FnSh:=⟨[],[]⟩
def Xa (SZ58:z5):SPT:=λa_ c_=>match a_ with
 | []=>SZ58 (λr0=>c_ (.bool r0) [])
 | _=>false
abbrev PF (SZ58:z5):Fs:=az VI (Xa SZ58)
def LJ:FnSh:=⟨[.int .u64],[]⟩
def GG (SZ103:sy):SPT:=λa_ c_=>match a_ with
 | [.int b]=>SZ103 b (λr0=>c_ (.flt r0) [])
 | _=>false
abbrev Iv (SZ103:sy):Fs:=az LJ (GG SZ103)
def VH:FnSh:=⟨[.agg [.int .u64,.int .u64,.int .u64]],[]⟩
def W_ (SZ57:z4):SPT:=λa_ c_=>match a_ with
 | [.int v_0,.int v_1,.int v_2]=>SZ57 v_0 v_1 v_2 (λr0 r1 r2=>c_ (.agg [.flt r0,.flt r1,.flt r2]) [])
 | _=>false
abbrev PE (SZ57:z4):Fs:=az VH (W_ SZ57)
def VJ:FnSh:=⟨[.agg [.flt,.flt,.flt]],[]⟩
def Xb (SZ59:z6):SPT:=λa_ c_=>match a_ with
 | [.fl v_0,.fl v_1,.fl v_2]=>SZ59 v_0 v_1 v_2 (λr0=>c_ (.bool r0) [])
 | _=>false
abbrev PG (SZ59:z6):Fs:=az VJ (Xb SZ59)
def M7:FnSh:=⟨[.flt],[]⟩
def H8 (SZ193:tO):SPT:=λa_ c_=>match a_ with
 | [.fl x]=>SZ193 x (λr0=>c_ (vwu r0) [])
 | _=>false
abbrev Jt (SZ193:tO):Fs:=az M7 (H8 SZ193)
def LZ:FnSh:=⟨[.flt],[]⟩
def GU (SZ118:kv):SPT:=λa_ c_=>match a_ with
 | [.fl x]=>SZ118 x (λr0 r1 r2=>c_ (.tup [.bool r0,vwi r1,vwu r2]) [])
 | _=>false
abbrev y_ (SZ118:kv):Fs:=az LZ (GU SZ118)
def Mn:FnSh:=⟨[.int .i64,.int .u64,.int .i64],[]⟩
def Hj (SZ142:sR):SPT:=λa_ c_=>match a_ with
 | [.int exp,.int frac,.int most]=>SZ142 exp frac most (λr0=>c_ (vwi r0) [])
 | _=>false
abbrev IQ (SZ142:sR):Fs:=az Mn (Hj SZ142)
def MO:FnSh:=⟨[.flt],[]⟩
def HR (SZ176:tB):SPT:=λa_ c_=>match a_ with
 | [.fl x]=>SZ176 x (λr0=>c_ (vwi r0) [])
 | _=>false
abbrev Jh (SZ176:tB):Fs:=az MO (HR SZ176)
def Wd:FnSh:=⟨[.flt],[]⟩
def XK (SZ97:qL):SPT:=λa_ c_=>match a_ with
 | [.fl x]=>SZ97 x (λr0=>c_ (.bool r0) [])
 | _=>false
abbrev NI (SZ97:qL):Fs:=az Wd (XK SZ97)
def VK:FnSh:=⟨[.rof],[]⟩
def Xd (SZ62:mB):SPT:=λa_ c_=>match a_ with
 | [.fls l]=>SZ62 l (λr0=>c_ (.bool r0) [])
 | _=>false
abbrev Ci (SZ62:mB):Fs:=az VK (Xd SZ62)
def VU:FnSh:=⟨[.agg [.flt,.flt,.flt]],[]⟩
def Xn (SZ72:uW):SPT:=λa_ c_=>match a_ with
 | [.fl v_0,.fl v_1,.fl v_2]=>SZ72 v_0 v_1 v_2 (λr0=>c_ (.bool r0) [])
 | _=>false
abbrev Bn (SZ72:uW):Fs:=az VU (Xn SZ72)
def VM:FnSh:=⟨[.ro 1 [.bool,.bool]],[]⟩
def Xf (SZ64:uV):SPT:=λa_ c_=>match a_ with
 | [.bool apD,.bool apE]=>SZ64 apD apE (λr0=>c_ (vwi r0) [])
 | _=>false
abbrev Bm (SZ64:uV):Fs:=az VM (Xf SZ64)
def M5:FnSh:=⟨[.rof],[]⟩
def H6 (SZ191:tL):SPT:=λa_ c_=>match a_ with
 | [.fls x]=>SZ191 x (λr0=>c_ (vwi r0) [])
 | _=>false
abbrev Jr (SZ191:tL):Fs:=az M5 (H6 SZ191)
def Mh:FnSh:=⟨[.rof],[]⟩
def Hd (SZ136:lv):SPT:=λa_ c_=>match a_ with
 | [.fls x]=>SZ136 x (λr0 r1=>c_ (.tup [vwi r0,.bool r1]) [])
 | _=>false
abbrev ze (SZ136:lv):Fs:=az Mh (Hd SZ136)
def Md:FnSh:=⟨[.litI .i64 0],[]⟩
def G_ (SZ132:mV):SPT:=λa_ c_=>match a_ with
 | []=>SZ132 (c_ (.bool true) [])
 | _=>false
abbrev IJ (SZ132:mV):Fs:=az Md (G_ SZ132)
def LU:FnSh:=⟨[],[]⟩
def GP (SZ113:mS):SPT:=λa_ c_=>match a_ with
 | []=>SZ113 (c_ (.agg [vwi 53,vwi (-1022),vwi 1023,vwi 11]) [])
 | _=>false
abbrev IA (SZ113:mS):Fs:=az LU (GP SZ113)
def UV:FnSh:=⟨[.slw 0],[some (87,1,.ints .u32)]⟩
def Wi (SZ11:dN):SPT:=λa_ c_=>match a_ with
 | [.ints b]=>SZ11 b (λr0 r1=>c_ (.sl 0 r0 r1) [⟨87,1,.ints .u32 b⟩])
 | _=>false
abbrev oA (SZ11:dN):Fs:=az UV (Wi SZ11)
def LY:FnSh:=⟨[.int .u64],[]⟩
def GT (SZ117:iT):SPT:=λa_ c_=>match a_ with
 | [.int n]=>SZ117 n (λr0=>c_ (vws r0) [])
 | _=>false
abbrev uS (SZ117:iT):Fs:=az LY (GT SZ117)
def MU:FnSh:=⟨[.roi .u32],[]⟩
def HX (SZ182:lG):SPT:=λa_ c_=>match a_ with
 | [.ints m]=>SZ182 m (λr0=>c_ (vws r0) [])
 | _=>false
abbrev zo (SZ182:lG):Fs:=az MU (HX SZ182)
def Vk:FnSh:=⟨[.ptr 0 0,.bool,.roi .u32],[some (98,1,.cells [.bool,.nil])]⟩
def WM (SZ36:eu):SPT:=λa_ c_=>match a_ with
 | [.bool neg,.ints m,.bool b]=>SZ36 neg m b (λr0 r1=>c_ (.ptr 0 0) [⟨98,1,.cells [.bool r0,vws r1]⟩])
 | _=>false
abbrev oC (SZ36:eu):Fs:=az Vk (WM SZ36)
def Gt:FnSh:=⟨[.ptr 0 0,.int .u64],[some (98,1,.cells [.bool,.nil])]⟩
def Xc (SZ61:qG):SPT:=λa_ c_=>match a_ with
 | [.int n,.bool b]=>SZ61 n b (λr0 r1=>c_ (.ptr 0 0) [⟨98,1,.cells [.bool r0,vws r1]⟩])
 | _=>false
abbrev ND (SZ61:qG):Fs:=az Gt (Xc SZ61)
def VX:FnSh:=⟨[.ptr 0 0,.bool,.roi .u32],[some (98,1,.cells [.bool,.roi .u32])]⟩
def Xq (SZ75:jQ):SPT:=λa_ c_=>match a_ with
 | [.bool neg,.ints m,.bool b,.ints b_1]=>SZ75 neg m b b_1 (λr0 r1=>c_ (.ptr 0 0) [⟨98,1,.cells [.bool r0,vws r1]⟩])
 | _=>false
abbrev yz (SZ75:jQ):Fs:=az VX (Xq SZ75)
def Wb:FnSh:=⟨[.ptr 0 0,.int .u64],[some (98,1,.cells [.bool,.roi .u32])]⟩
def XH (SZ94:Ah):SPT:=λa_ c_=>match a_ with
 | [.int n,.bool b,.ints b_1]=>SZ94 n b b_1 (λr0 r1=>c_ (.ptr 0 0) [⟨98,1,.cells [.bool r0,vws r1]⟩])
 | _=>false
abbrev YJ (SZ94:Ah):Fs:=az Wb (XH SZ94)
def MJ:FnSh:=⟨[.agg [.litI .i64 53,.litI .i64 (-1022),.litI .i64 1023,.litI .i64 11],.int .u64],[]⟩
def HL (SZ170:mX):SPT:=λa_ c_=>match a_ with
 | [.int bits]=>SZ170 bits (λr0=>c_ (.agg [vwi 2,.bool false,.ptr 0 0,vwi 0]) [⟨98,1,.cells [.bool r0,.nil]⟩]) (λr0 r1 r2=>c_ (.agg [vwi 1,.bool r0,.ptr 0 0,vwi (-1074)]) [⟨98,1,.cells [.bool r1,vws r2]⟩]) (λr0 r1 r2 r3=>c_ (.agg [vwi 0,.bool r0,.ptr 0 0,vwi r1]) [⟨98,1,.cells [.bool r2,vws r3]⟩]) (λr0 r1 r2=>c_ (.agg [vwi 0,.bool r0,.ptr 0 0,vwi (-1074)]) [⟨98,1,.cells [.bool r1,vws r2]⟩])
 | _=>false
abbrev Jb (SZ170:mX):Fs:=az MJ (HL SZ170)
def M3:FnSh:=⟨[.agg [.litI .i64 53,.litI .i64 (-1022),.litI .i64 1023,.litI .i64 11]],[]⟩
def H4 (SZ189:lJ):SPT:=λa_ c_=>match a_ with
 | []=>SZ189 (λr0=>c_ (vwu r0) [])
 | _=>false
abbrev zq (SZ189:lJ):Fs:=az M3 (H4 SZ189)
def MQ:FnSh:=⟨[.agg [.litI .i64 53,.litI .i64 (-1022),.litI .i64 1023,.litI .i64 11],.agg [.litI .i64 2,.litB false,.ptr 0 0,.litI .i64 0],.litI .i64 0],[some (98,1,.cells [.bool,.nil])]⟩
def HT (SZ178:mY):SPT:=λa_ c_=>match a_ with
 | [.bool b]=>SZ178 b (λr0 r1=>c_ (.tup [vwu r0,vwi r1]) [⟨98,1,.cells [.bool b,.nil]⟩])
 | _=>false
abbrev Jj (SZ178:mY):Fs:=az MQ (HT SZ178)
def VZ:FnSh:=⟨[.agg [.litI .i64 53,.litI .i64 (-1022),.litI .i64 1023,.litI .i64 11],.bool,.int .i64,.int .u64],[]⟩
def Xs (SZ77:jh):SPT:=λa_ c_=>match a_ with
 | [.bool neg,.int field,.int frac]=>SZ77 neg field frac (λr0=>c_ (vwu r0) [])
 | _=>false
abbrev Cj (SZ77:jh):Fs:=az VZ (Xs SZ77)
def LX:FnSh:=⟨[.agg [.litI .i64 53,.litI .i64 (-1022),.litI .i64 1023,.litI .i64 11],.bool],[]⟩
def GS (SZ116:lq):SPT:=λa_ c_=>match a_ with
 | [.bool neg]=>SZ116 neg (λr0=>c_ (vwu r0) [])
 | _=>false
abbrev y9 (SZ116:lq):Fs:=az LX (GS SZ116)
def Vb:FnSh:=⟨[.ptr 0 0],[some (98,1,.cells [.bool,.roi .u32])]⟩
def WC (SZ26:er):SPT:=λa_ c_=>match a_ with
 | [.bool b,.ints b_1]=>SZ26 b b_1 (λr0=>c_ (vwi r0) [⟨98,1,.cells [.bool b,vws b_1]⟩])
 | _=>false
abbrev oB (SZ26:er):Fs:=az Vb (WC SZ26)
def MS:FnSh:=⟨[.agg [.int .i64,.bool,.ptr 0 0,.int .i64]],[some (98,1,.cells [.bool,.roi .u32])]⟩
def HV (SZ180:tE):SPT:=λa_ c_=>match a_ with
 | [.int n_0,.bool n_1,.int n_2,.bool b,.ints b_1]=>SZ180 n_0 n_1 n_2 b b_1 (λr0=>c_ (.bool r0) [⟨98,1,.cells [.bool b,vws b_1]⟩])
 | _=>false
abbrev Jl (SZ180:tE):Fs:=az MS (HV SZ180)
def MV:FnSh:=⟨[.agg [.litI .i64 53,.litI .i64 (-1022),.litI .i64 1023,.litI .i64 11],.bool],[]⟩
def HY (SZ183:tF):SPT:=λa_ c_=>match a_ with
 | [.bool neg]=>SZ183 neg (λr0=>c_ (vwu r0) [])
 | _=>false
abbrev Jm (SZ183:tF):Fs:=az MV (HY SZ183)
def Mi:FnSh:=⟨[.int .u32],[]⟩
def He (SZ137:sO):SPT:=λa_ c_=>match a_ with
 | [.int x]=>SZ137 x (λr0=>c_ (vwi r0) [])
 | _=>false
abbrev IL (SZ137:sO):Fs:=az Mi (He SZ137)
def adi:FnSh:=⟨[.ptr 0 0],[some (98,1,.cells [.bool,.roi .u32])]⟩
def ahs (SZ7:yC):SPT:=λa_ c_=>match a_ with
 | [.bool b,.ints b_1]=>SZ7 b b_1 (λr0=>c_ (vwi r0) [⟨98,1,.cells [.bool b,vws b_1]⟩])
 | _=>false
abbrev FZ7 (SZ7:yC):Fs:=az adi (ahs SZ7)
def We:FnSh:=⟨[.ptr 0 0,.bool,.slw 1],[some (98,1,.cells [.bool,.nil]),some (87,1,.ints .u32)]⟩
def XL (SZ98:qM):SPT:=λa_ c_=>match a_ with
 | [.bool neg,.bool b,.ints b_1]=>SZ98 neg b b_1 (λr0 r1 r2=>c_ (.ptr 0 0) [⟨98,1,.cells [.bool r0,.sl 1 r1 r2]⟩,⟨87,1,.ints .u32 b_1⟩])
 | _=>false
abbrev NJ (SZ98:qM):Fs:=az We (XL SZ98)
def UU:FnSh:=⟨[.ptr 0 0,.ptr 1 0],[some (98,1,.cells [.bool,.nil]),some (98,1,.cells [.bool,.roi .u32])]⟩
def Wg (SZ10:oO):SPT:=λa_ c_=>match a_ with
 | [.bool b,.bool b_1,.ints b_2]=>SZ10 b b_1 b_2 (λr0 r1=>c_ (.ptr 0 0) [⟨98,1,.cells [.bool r0,vws r1]⟩,⟨98,1,.cells [.bool b_1,vws b_2]⟩])
 | _=>false
abbrev Yb (SZ10:oO):Fs:=az UU (Wg SZ10)
def Mv:FnSh:=⟨[.roi .u32,.int .u64],[]⟩
def Hu (SZ153:lA):SPT:=λa_ c_=>match a_ with
 | [.ints m,.int n]=>SZ153 m n (λr0=>c_ (vws r0) [])
 | _=>false
abbrev zh (SZ153:lA):Fs:=az Mv (Hu SZ153)
def UZ:FnSh:=⟨[.ptr 0 0,.ptr 0 0,.int .u64],[some (98,1,.cells [.bool,.roi .u32])]⟩
def Wo (SZ15:oQ):SPT:=λa_ c_=>match a_ with
 | [.int n,.bool b,.ints b_1]=>SZ15 n b b_1 (λr0 r1=>c_ (.ptr 0 0) [⟨98,1,.cells [.bool r0,vws r1]⟩])
 | _=>false
abbrev Ye (SZ15:oQ):Fs:=az UZ (Wo SZ15)
def Mm:FnSh:=⟨[.roi .u32,.int .u64],[]⟩
def Hi (SZ141:lz):SPT:=λa_ c_=>match a_ with
 | [.ints m,.int n]=>SZ141 m n (λr0=>c_ (vws r0) [])
 | _=>false
abbrev zg (SZ141:lz):Fs:=az Mm (Hi SZ141)
def Vt:FnSh:=⟨[.roi .u32,.roi .u32],[]⟩
def WV (SZ45:gl):SPT:=λa_ c_=>match a_ with
 | [.ints a,.ints b]=>SZ45 a b (λr0=>c_ (vws r0) [])
 | _=>false
abbrev vD (SZ45:gl):Fs:=az Vt (WV SZ45)
def LS:FnSh:=⟨[.roi .u32,.roi .u32],[]⟩
def GO (SZ112:f4):SPT:=λa_ c_=>match a_ with
 | [.ints a,.ints b]=>SZ112 a b (λr0=>c_ (vws r0) [])
 | _=>false
abbrev oJ (SZ112:f4):Fs:=az LS (GO SZ112)
def L8:FnSh:=⟨[.ptr 0 0,.ptr 1 0,.int .u64],[some (98,1,.cells [.bool,.nil]),some (98,1,.cells [.bool,.roi .u32])]⟩
def G5 (SZ126:sL):SPT:=λa_ c_=>match a_ with
 | [.int n,.bool b,.bool b_1,.ints b_2]=>SZ126 n b b_1 b_2 (λr0 r1=>c_ (.ptr 0 0) [⟨98,1,.cells [.bool r0,vws r1]⟩,⟨98,1,.cells [.bool b_1,vws b_2]⟩])
 | _=>false
abbrev IG (SZ126:sL):Fs:=az L8 (G5 SZ126)
def V5:FnSh:=⟨[.ptr 0 0,.ptr 1 0,.int .u64],[some (98,1,.cells [.bool,.nil]),some (98,1,.cells [.bool,.roi .u32])]⟩
def Xz (SZ84:qJ):SPT:=λa_ c_=>match a_ with
 | [.int n,.bool b,.bool b_1,.ints b_2]=>SZ84 n b b_1 b_2 (λr0 r1=>c_ (.ptr 0 0) [⟨98,1,.cells [.bool r0,vws r1]⟩,⟨98,1,.cells [.bool b_1,vws b_2]⟩])
 | _=>false
abbrev NH (SZ84:qJ):Fs:=az V5 (Xz SZ84)
def V0:FnSh:=⟨[.roi .u32,.roi .u32],[]⟩
def Xt (SZ78:mC):SPT:=λa_ c_=>match a_ with
 | [.ints a,.ints b]=>SZ78 a b (λr0=>c_ (vwi r0) [])
 | _=>false
abbrev Ck (SZ78:mC):Fs:=az V0 (Xt SZ78)
def VN:FnSh:=⟨[.ptr 0 0,.ptr 1 0,.ptr 2 0,.bool],[some (98,1,.cells [.bool,.nil]),some (98,1,.cells [.bool,.roi .u32]),some (98,1,.cells [.bool,.roi .u32])]⟩
def Xg (SZ65:qH):SPT:=λa_ c_=>match a_ with
 | [.bool turn,.bool b,.bool b_1,.ints b_2,.bool b_3,.ints b_4]=>SZ65 turn b b_1 b_2 b_3 b_4 (λr0 r1=>c_ (.ptr 0 0) [⟨98,1,.cells [.bool r0,vws r1]⟩,⟨98,1,.cells [.bool b_1,vws b_2]⟩,⟨98,1,.cells [.bool b_3,vws b_4]⟩])
 | _=>false
abbrev NE (SZ65:qH):Fs:=az VN (Xg SZ65)
def Wc:FnSh:=⟨[.ptr 0 0,.ptr 1 0,.ptr 2 0],[some (98,1,.cells [.bool,.nil]),some (98,1,.cells [.bool,.roi .u32]),some (98,1,.cells [.bool,.roi .u32])]⟩
def XI (SZ95:Ai):SPT:=λa_ c_=>match a_ with
 | [.bool b,.bool b_1,.ints b_2,.bool b_3,.ints b_4]=>SZ95 b b_1 b_2 b_3 b_4 (λr0 r1=>c_ (.ptr 0 0) [⟨98,1,.cells [.bool r0,vws r1]⟩,⟨98,1,.cells [.bool b_1,vws b_2]⟩,⟨98,1,.cells [.bool b_3,vws b_4]⟩])
 | _=>false
abbrev YK (SZ95:Ai):Fs:=az Wc (XI SZ95)
def LN:FnSh:=⟨[.ptr 0 0,.int .i64],[some (98,1,.cells [.bool,.nil])]⟩
def GI (SZ105:sC):SPT:=λa_ c_=>match a_ with
 | [.int n,.bool b]=>SZ105 n b (λr0 r1=>c_ (.ptr 0 0) [⟨98,1,.cells [.bool r0,vws r1]⟩])
 | _=>false
abbrev Ix (SZ105:sC):Fs:=az LN (GI SZ105)
def UY:FnSh:=⟨[.int .i64],[]⟩
def Wn (SZ14:gC):SPT:=λa_ c_=>match a_ with
 | [.int n]=>SZ14 n (λr0 r1=>c_ (.ptr 0 0) [⟨98,1,.cells [.bool r0,vws r1]⟩])
 | _=>false
abbrev yw (SZ14:gC):Fs:=az UY (Wn SZ14)
def L6:FnSh:=⟨[.ptr 0 0,.ptr 1 0],[some (98,1,.cells [.bool,.roi .u32]),some (98,1,.cells [.bool,.roi .u32])]⟩
def GZ (SZ124:sJ):SPT:=λa_ c_=>match a_ with
 | [.bool b,.ints b_1,.bool b_2,.ints b_3]=>SZ124 b b_1 b_2 b_3 (λr0=>c_ (vwi r0) [⟨98,1,.cells [.bool b,vws b_1]⟩,⟨98,1,.cells [.bool b_2,vws b_3]⟩])
 | _=>false
abbrev IE (SZ124:sJ):Fs:=az L6 (GZ SZ124)
def VS:FnSh:=⟨[.ptr 0 0,.int .i64,.litB false],[some (98,1,.cells [.bool,.roi .u32])]⟩
def Xl (SZ70:oW):SPT:=λa_ c_=>match a_ with
 | [.int s,.bool b,.ints b_1]=>SZ70 s b b_1 (λr0 r3 r4=>c_ (.tup [.ptr 1 0,vwi r0]) [⟨98,1,.cells [.bool b,vws b_1]⟩,⟨98,1,.cells [.bool r3,vws r4]⟩])
 | _=>false
abbrev YC (SZ70:oW):Fs:=az VS (Xl SZ70)
def rS:FnSh:=⟨[.ptr 0 0,.int .i64],[some (98,1,.cells [.bool,.roi .u32])]⟩
def Ho (SZ147:sV):SPT:=λa_ c_=>match a_ with
 | [.int i,.bool b,.ints b_1]=>SZ147 i b b_1 (λr0=>c_ (vwu r0) [⟨98,1,.cells [.bool b,vws b_1]⟩])
 | _=>false
abbrev IW (SZ147:sV):Fs:=az rS (Ho SZ147)
def Ve:FnSh:=⟨[.bool,.ptr 0 0,.int .i64,.litI .i64 0],[some (98,1,.cells [.bool,.roi .u32])]⟩
def WF (SZ29:oR):SPT:=λa_ c_=>match a_ with
 | [.bool neg,.int c,.bool b,.ints b_1]=>SZ29 neg c b b_1 (λr0=>c_ (.bool r0) [⟨98,1,.cells [.bool b,vws b_1]⟩])
 | _=>false
abbrev Yi (SZ29:oR):Fs:=az Ve (WF SZ29)
def LG:FnSh:=⟨[.ptr 0 0,.ptr 0 0,.ptr 1 0,.bool],[some (98,1,.cells [.bool,.roi .u32]),some (98,1,.cells [.bool,.roi .u32])]⟩
def GE (SZ101:sw):SPT:=λa_ c_=>match a_ with
 | [.bool turn,.bool b,.ints b_1,.bool b_2,.ints b_3]=>SZ101 turn b b_1 b_2 b_3 (λr0 r1=>c_ (.ptr 0 0) [⟨98,1,.cells [.bool r0,vws r1]⟩,⟨98,1,.cells [.bool b_2,vws b_3]⟩])
 | _=>false
abbrev It (SZ101:sw):Fs:=az LG (GE SZ101)
def adf:FnSh:=⟨[.ptr 0 0,.ptr 0 0,.ptr 1 0],[some (98,1,.cells [.bool,.roi .u32]),some (98,1,.cells [.bool,.roi .u32])]⟩
def ahp (SZ4:yB):SPT:=λa_ c_=>match a_ with
 | [.bool b,.ints b_1,.bool b_2,.ints b_3]=>SZ4 b b_1 b_2 b_3 (λr0 r1=>c_ (.ptr 0 0) [⟨98,1,.cells [.bool r0,vws r1]⟩,⟨98,1,.cells [.bool b_2,vws b_3]⟩])
 | _=>false
abbrev FZ4 (SZ4:yB):Fs:=az adf (ahp SZ4)
def UX:FnSh:=⟨[.ptr 0 0,.ptr 0 0,.int .u64],[some (98,1,.cells [.bool,.roi .u32])]⟩
def Wm (SZ13:oP):SPT:=λa_ c_=>match a_ with
 | [.int n,.bool b,.ints b_1]=>SZ13 n b b_1 (λr0 r1=>c_ (.ptr 0 0) [⟨98,1,.cells [.bool r0,vws r1]⟩])
 | _=>false
abbrev Yd (SZ13:oP):Fs:=az UX (Wm SZ13)
def VR:FnSh:=⟨[.agg [.litI .i64 53,.litI .i64 (-1022),.litI .i64 1023,.litI .i64 11],.bool,.litI .i64 0],[]⟩
def Xk (SZ69:oV):SPT:=λa_ c_=>match a_ with
 | [.bool neg]=>SZ69 neg (λr0=>c_ (vwu r0) [])
 | _=>false
abbrev YB (SZ69:oV):Fs:=az VR (Xk SZ69)
def D7:FnSh:=⟨[.ptr 0 0],[some (98,1,.cells [.bool,.roi .u32])]⟩
def ahu (SZ9:yE):SPT:=λa_ c_=>match a_ with
 | [.bool b,.ints b_1]=>SZ9 b b_1 (λr0=>c_ (vwu r0) [⟨98,1,.cells [.bool b,vws b_1]⟩])
 | _=>false
abbrev FZ9 (SZ9:yE):Fs:=az D7 (ahu SZ9)
def rU:FnSh:=⟨[.agg [.litI .i64 53,.litI .i64 (-1022),.litI .i64 1023,.litI .i64 11],.bool,.ptr 0 0,.int .i64,.litB false,.litI .i64 0],[some (98,1,.cells [.bool,.roi .u32])]⟩
def Hz (SZ158:td):SPT:=λa_ c_=>match a_ with
 | [.bool neg,.int e,.bool b,.ints b_1]=>SZ158 neg e b b_1 (λr0 r1=>c_ (.tup [vwu r0,vwi r1]) [⟨98,1,.cells [.bool b,vws b_1]⟩])
 | _=>false
abbrev I2 (SZ158:td):Fs:=az rU (Hz SZ158)
def B3:FnSh:=⟨[.agg [.litI .i64 53,.litI .i64 (-1022),.litI .i64 1023,.litI .i64 11],.agg [.int .i64,.bool,.ptr 0 0,.int .i64],.litI .i64 0],[some (98,1,.cells [.bool,.roi .u32])]⟩
def GY (SZ123:mU):SPT:=λa_ c_=>match a_ with
 | [.int n_0,.bool n_1,.int n_2,.bool b,.ints b_1]=>SZ123 n_0 n_1 n_2 b b_1 (λr0 r1=>c_ (.tup [vwu r0,vwi r1]) [⟨98,1,.cells [.bool b,vws b_1]⟩])
 | _=>false
abbrev ID (SZ123:mU):Fs:=az B3 (GY SZ123)
def rV:FnSh:=⟨[.int .u64,.int .i64,.litI .i64 0],[]⟩
def HF (SZ164:th):SPT:=λa_ c_=>match a_ with
 | [.int x,.int k_]=>SZ164 x k_ (λr0 r1 r2=>c_ (.tup [vwu r0,vwi r1,vwi r2]) [])
 | _=>false
abbrev I6 (SZ164:th):Fs:=az rV (HF SZ164)
def V4:FnSh:=⟨[.flt,.int .i64],[]⟩
def Xy (SZ83:mD):SPT:=λa_ c_=>match a_ with
 | [.fl x,.int k_]=>SZ83 x k_ (λr0=>c_ (.flt r0) [])
 | _=>false
abbrev Cl (SZ83:mD):Fs:=az V4 (Xy SZ83)
def MR:FnSh:=⟨[.rof,.rof],[]⟩
def HU (SZ179:tD):SPT:=λa_ c_=>match a_ with
 | [.fls x,.fls y]=>SZ179 x y (λr0=>c_ (.flt r0) [])
 | _=>false
abbrev Jk (SZ179:tD):Fs:=az MR (HU SZ179)
def Mt:FnSh:=⟨[.rof,.int .i64],[]⟩
def Hs (SZ151:s_):SPT:=λa_ c_=>match a_ with
 | [.fls x,.int k_]=>SZ151 x k_ (λr0 r1=>c_ (.tup [.slw 0,.flt r0]) [⟨28,1,.flts r1⟩])
 | _=>false
abbrev I0 (SZ151:s_):Fs:=az Mt (Hs SZ151)
def LD:FnSh:=⟨[.rof],[]⟩
def GD (SZ100:mR):SPT:=λa_ c_=>match a_ with
 | [.fls x]=>SZ100 x (λr0 r1=>c_ (.tup [.flt r0,vwi r1]) [])
 | _=>false
abbrev qr (SZ100:mR):Fs:=az LD (GD SZ100)
def L4:FnSh:=⟨[.agg [.flt,.flt,.flt],.agg [.flt,.flt,.flt]],[]⟩
def GV (SZ119:mT):SPT:=λa_ c_=>match a_ with
 | [.fl a_0,.fl a_1,.fl a_2,.fl b_0,.fl b_1,.fl b_2]=>SZ119 a_0 a_1 a_2 b_0 b_1 b_2 (λr0 r1 r2=>c_ (.agg [.flt r0,.flt r1,.flt r2]) [])
 | _=>false
abbrev qs (SZ119:mT):Fs:=az L4 (GV SZ119)
def Mx:FnSh:=⟨[.agg [.flt,.flt,.flt,.flt]],[]⟩
def Hw (SZ155:lB):SPT:=λa_ c_=>match a_ with
 | [.fl q_0,.fl q_1,.fl q_2,.fl q_3]=>SZ155 q_0 q_1 q_2 q_3 (λr0=>c_ (.slw 0) [⟨28,1,.flts r0⟩])
 | _=>false
abbrev zj (SZ155:lB):Fs:=az Mx (Hw SZ155)
def MD:FnSh:=⟨[.agg [.flt,.flt,.flt,.flt]],[]⟩
def HD (SZ162:tf):SPT:=λa_ c_=>match a_ with
 | [.fl q_0,.fl q_1,.fl q_2,.fl q_3]=>SZ162 q_0 q_1 q_2 q_3 (λr0=>c_ (.bool r0) [])
 | _=>false
abbrev I4 (SZ162:tf):Fs:=az MD (HD SZ162)
def LO:FnSh:=⟨[.ro 1 [.bool]],[]⟩
def GJ (SZ106:sD):SPT:=λa_ c_=>match a_ with
 | [.bool ok]=>SZ106 ok (λr0=>c_ (vwi r0) [])
 | _=>false
abbrev Iy (SZ106:sD):Fs:=az LO (GJ SZ106)
def Nf:FnSh:=⟨[.rof],[]⟩
def Ii (SZ205:ua):SPT:=λa_ c_=>match a_ with
 | [.fls l]=>SZ205 l (λr0 r1 r2 r3=>c_ (.agg [.flt r0,.flt r1,.flt r2,.flt r3]) [])
 | _=>false
abbrev JC (SZ205:ua):Fs:=az Nf (Ii SZ205)
def Mo:FnSh:=⟨[.agg [.flt,.flt,.flt,.flt]],[]⟩
def Hk (SZ143:mW):SPT:=λa_ c_=>match a_ with
 | [.fl q_0,.fl q_1,.fl q_2,.fl q_3]=>SZ143 q_0 q_1 q_2 q_3 (λr0 r1 r2 r3 r4=>c_ (.tup [.agg [.flt r0,.flt r1,.flt r2,.flt r3],vwi r4]) [])
 | _=>false
abbrev qt (SZ143:mW):Fs:=az Mo (Hk SZ143)
def rQ:FnSh:=⟨[.agg [.flt,.flt,.flt],.agg [.flt,.flt,.flt]],[]⟩
def GK (SZ107:sE):SPT:=λa_ c_=>match a_ with
 | [.fl a_0,.fl a_1,.fl a_2,.fl b_0,.fl b_1,.fl b_2]=>SZ107 a_0 a_1 a_2 b_0 b_1 b_2 (λr0 r1 r2 r3 r4 r5=>c_ (.tup [.agg [.flt r0,.flt r1,.flt r2,.flt r3],.flt r4,vwi r5]) [])
 | _=>false
abbrev Ce (SZ107:sE):Fs:=az rQ (GK SZ107)
def M_:FnSh:=⟨[.rof],[]⟩
def Ia (SZ196:tQ):SPT:=λa_ c_=>match a_ with
 | [.fls x]=>SZ196 x (λr0=>c_ (vwi r0) [])
 | _=>false
abbrev Jw (SZ196:tQ):Fs:=az M_ (Ia SZ196)
def MP:FnSh:=⟨[.rof],[]⟩
def HS (SZ177:tC):SPT:=λa_ c_=>match a_ with
 | [.fls x]=>SZ177 x (λr0 r1=>c_ (.tup [vwi r0,.bool r1]) [])
 | _=>false
abbrev Ji (SZ177:tC):Fs:=az MP (HS SZ177)
def MG:FnSh:=⟨[.rof,.int .i64],[]⟩
def HH (SZ166:tk):SPT:=λa_ c_=>match a_ with
 | [.fls x,.int k_]=>SZ166 x k_ (λr0 r1=>c_ (.tup [.slw 0,.flt r0]) [⟨28,1,.flts r1⟩])
 | _=>false
abbrev I8 (SZ166:tk):Fs:=az MG (HH SZ166)
def Mu:FnSh:=⟨[.rof],[]⟩
def Ht (SZ152:tc):SPT:=λa_ c_=>match a_ with
 | [.fls x]=>SZ152 x (λr0=>c_ (.flt r0) [])
 | _=>false
abbrev I1 (SZ152:tc):Fs:=az Mu (Ht SZ152)
def MI:FnSh:=⟨[.flt],[]⟩
def HK (SZ169:tq):SPT:=λa_ c_=>match a_ with
 | [.fl x]=>SZ169 x (λr0=>c_ (.bool r0) [])
 | _=>false
abbrev Ja (SZ169:tq):Fs:=az MI (HK SZ169)
def Mq:FnSh:=⟨[.rof],[]⟩
def Hm (SZ145:sT):SPT:=λa_ c_=>match a_ with
 | [.fls x]=>SZ145 x (λr0 r1=>c_ (.tup [.flt r0,vwi r1]) [])
 | _=>false
abbrev IU (SZ145:sT):Fs:=az Mq (Hm SZ145)
def V6:FnSh:=⟨[.agg [.flt,.flt,.flt]],[]⟩
def XA (SZ85:uX):SPT:=λa_ c_=>match a_ with
 | [.fl v_0,.fl v_1,.fl v_2]=>SZ85 v_0 v_1 v_2 (λr0 r1 r2 r3=>c_ (.tup [.agg [.flt r0,.flt r1,.flt r2],vwi r3]) [])
 | _=>false
abbrev Bo (SZ85:uX):Fs:=az V6 (XA SZ85)
def ye:FnSh:=⟨[.agg [.flt,.flt,.flt],.agg [.flt,.flt,.flt]],[]⟩
def XC (SZ88:Ae):SPT:=λa_ c_=>match a_ with
 | [.fl a_0,.fl a_1,.fl a_2,.fl b_0,.fl b_1,.fl b_2]=>SZ88 a_0 a_1 a_2 b_0 b_1 b_2 (λr0 r1 r2 r3 r4=>c_ (.tup [.agg [.flt r0,.flt r1,.flt r2,.flt r3],vwi r4]) [])
 | _=>false
abbrev PI (SZ88:Ae):Fs:=az ye (XC SZ88)
def MA:FnSh:=⟨[],[]⟩
def HA (SZ159:te):SPT:=λa_ c_=>match a_ with
 | []=>SZ159 (λr0 r1=>c_ (.agg [.ptr 0 0,vwi r0]) [⟨98,1,.cells [.bool r1,.nil]⟩])
 | _=>false
abbrev I3 (SZ159:te):Fs:=az MA (HA SZ159)
def ML:FnSh:=⟨[.int .u64,.int .i64],[]⟩
def HO (SZ173:pq):SPT:=λa_ c_=>match a_ with
 | [.int m,.int e]=>SZ173 m e (λr0 r1=>c_ (.tup [vwu r0,vwi r1]) [])
 | _=>false
abbrev Je (SZ173:pq):Fs:=az ML (HO SZ173)
def rW:FnSh:=⟨[.flt],[]⟩
def HJ (SZ168:tn):SPT:=λa_ c_=>match a_ with
 | [.fl x]=>SZ168 x (λr0 r1 r2 r3=>c_ (.tup [.agg [.bool r0,vwu r1,vwi r2],vwi r3]) [])
 | _=>false
abbrev I_ (SZ168:tn):Fs:=az rW (HJ SZ168)
def Mp:FnSh:=⟨[.ptr 0 0,.bool,.slw 1],[some (98,1,.cells [.bool,.roi .u32]),some (87,1,.ints .u32)]⟩
def Hl (SZ144:sS):SPT:=λa_ c_=>match a_ with
 | [.bool neg,.bool b,.ints b_1,.ints b_2]=>SZ144 neg b b_1 b_2 (λr0 r1 r2=>c_ (.ptr 0 0) [⟨98,1,.cells [.bool r0,.sl 1 r1 r2]⟩,⟨87,1,.ints .u32 b_2⟩])
 | _=>false
abbrev IR (SZ144:sS):Fs:=az Mp (Hl SZ144)
def Mk:FnSh:=⟨[.ptr 0 0,.ptr 0 0],[some (98,1,.cells [.bool,.roi .u32])]⟩
def Hg (SZ139:sQ):SPT:=λa_ c_=>match a_ with
 | [.bool b,.ints b_1]=>SZ139 b b_1 (λr0 r1=>c_ (.ptr 0 0) [⟨98,1,.cells [.bool r0,vws r1]⟩])
 | _=>false
abbrev IP (SZ139:sQ):Fs:=az Mk (Hg SZ139)
def MB:FnSh:=⟨[.flt],[]⟩
def HB (SZ160:lE):SPT:=λa_ c_=>match a_ with
 | [.fl x]=>SZ160 x (λr0 r1 r2=>c_ (.agg [.ptr 0 0,vwi r0]) [⟨98,1,.cells [.bool r1,vws r2]⟩])
 | _=>false
abbrev ws (SZ160:lE):Fs:=az MB (HB SZ160)
def Mg:FnSh:=⟨[.roi .u32,.roi .u32],[]⟩
def Hc (SZ135:lu):SPT:=λa_ c_=>match a_ with
 | [.ints a,.ints b]=>SZ135 a b (λr0=>c_ (vws r0) [])
 | _=>false
abbrev zd (SZ135:lu):Fs:=az Mg (Hc SZ135)
def Wa:FnSh:=⟨[.ptr 0 0,.ptr 1 0,.ptr 2 0],[some (98,1,.cells [.bool,.nil]),some (98,1,.cells [.bool,.roi .u32]),some (98,1,.cells [.bool,.roi .u32])]⟩
def XG (SZ93:Ag):SPT:=λa_ c_=>match a_ with
 | [.bool b,.bool b_1,.ints b_2,.bool b_3,.ints b_4]=>SZ93 b b_1 b_2 b_3 b_4 (λr0 r1=>c_ (.ptr 0 0) [⟨98,1,.cells [.bool r0,vws r1]⟩,⟨98,1,.cells [.bool b_1,vws b_2]⟩,⟨98,1,.cells [.bool b_3,vws b_4]⟩])
 | _=>false
abbrev YI (SZ93:Ag):Fs:=az Wa (XG SZ93)
def ada:FnSh:=⟨[.agg [.ptr 0 0,.int .i64],.agg [.ptr 1 0,.int .i64]],[some (98,1,.cells [.bool,.roi .u32]),some (98,1,.cells [.bool,.roi .u32])]⟩
def ahl (SZ0:mK):SPT:=λa_ c_=>match a_ with
 | [.int x,.int y,.bool b,.ints b_1,.bool b_2,.ints b_3]=>SZ0 x y b b_1 b_2 b_3 (λr0 r5 r6=>c_ (.agg [.ptr 2 0,vwi r0]) [⟨98,1,.cells [.bool b,vws b_1]⟩,⟨98,1,.cells [.bool b_2,vws b_3]⟩,⟨98,1,.cells [.bool r5,vws r6]⟩])
 | _=>false
abbrev FZ0 (SZ0:mK):Fs:=az ada (ahl SZ0)
def B4:FnSh:=⟨[.ptr 0 0],[some (98,1,.cells [.bool,.nil])]⟩
def Hr (SZ150:sZ):SPT:=λa_ c_=>match a_ with
 | [.bool b]=>SZ150 b (λr0 r2=>c_ (vwi r0) [⟨98,1,.cells [.bool b,vws r2]⟩])
 | _=>false
abbrev IZ (SZ150:sZ):Fs:=az B4 (Hr SZ150)
def Vp:FnSh:=⟨[.agg [.ptr 0 0,.int .i64],.int .i64],[some (98,1,.cells [.bool,.roi .u32])]⟩
def WR (SZ41:qC):SPT:=λa_ c_=>match a_ with
 | [.int x,.int e,.bool b,.ints b_1]=>SZ41 x e b b_1 (c_ (.agg [.ptr 0 0,vwi x]) [⟨98,1,.cells [.bool b,vws b_1]⟩]) (λr3 r4=>c_ (.agg [.ptr 1 0,vwi e]) [⟨98,1,.cells [.bool b,vws b_1]⟩,⟨98,1,.cells [.bool r3,vws r4]⟩])
 | _=>false
abbrev Nx (SZ41:qC):Fs:=az Vp (WR SZ41)
def VG:FnSh:=⟨[.ptr 0 0,.ptr 1 0,.ptr 2 0],[some (98,1,.cells [.bool,.nil]),some (98,1,.cells [.bool,.roi .u32]),some (98,1,.cells [.bool,.roi .u32])]⟩
def W9 (SZ56:qF):SPT:=λa_ c_=>match a_ with
 | [.bool b,.bool b_1,.ints b_2,.bool b_3,.ints b_4]=>SZ56 b b_1 b_2 b_3 b_4 (λr0 r1=>c_ (.ptr 0 0) [⟨98,1,.cells [.bool r0,vws r1]⟩,⟨98,1,.cells [.bool b_1,vws b_2]⟩,⟨98,1,.cells [.bool b_3,vws b_4]⟩])
 | _=>false
abbrev NC (SZ56:qF):Fs:=az VG (W9 SZ56)
def Gr:FnSh:=⟨[.agg [.ptr 0 0,.int .i64],.agg [.ptr 1 0,.int .i64]],[some (98,1,.cells [.bool,.nil]),some (98,1,.cells [.bool,.roi .u32])]⟩
def WG (SZ30:zM):SPT:=λa_ c_=>match a_ with
 | [.int x,.int y,.bool b,.bool b_1,.ints b_2]=>SZ30 x y b b_1 b_2 (λr2=>c_ (.agg [.ptr 1 0,vwi y]) [⟨98,1,.cells [.bool b,vws r2]⟩,⟨98,1,.cells [.bool b_1,vws b_2]⟩]) (λr2=>c_ (.agg [.ptr 0 0,vwi x]) [⟨98,1,.cells [.bool b,vws r2]⟩,⟨98,1,.cells [.bool b_1,vws b_2]⟩]) (λr0 r2 r5 r6=>c_ (.agg [.ptr 2 0,vwi r0]) [⟨98,1,.cells [.bool b,vws r2]⟩,⟨98,1,.cells [.bool b_1,vws b_2]⟩,⟨98,1,.cells [.bool r5,vws r6]⟩])
 | _=>false
abbrev Yj (SZ30:zM):Fs:=az Gr (WG SZ30)
def adb:FnSh:=⟨[.agg [.ptr 0 0,.int .i64],.agg [.ptr 1 0,.int .i64]],[some (98,1,.cells [.bool,.roi .u32]),some (98,1,.cells [.bool,.roi .u32])]⟩
def ahm (SZ1:po):SPT:=λa_ c_=>match a_ with
 | [.int x,.int y,.bool b,.ints b_1,.bool b_2,.ints b_3]=>SZ1 x y b b_1 b_2 b_3 (c_ (.agg [.ptr 1 0,vwi y]) [⟨98,1,.cells [.bool b,vws b_1]⟩,⟨98,1,.cells [.bool b_2,vws b_3]⟩]) (c_ (.agg [.ptr 0 0,vwi x]) [⟨98,1,.cells [.bool b,vws b_1]⟩,⟨98,1,.cells [.bool b_2,vws b_3]⟩]) (λr0 r5 r6=>c_ (.agg [.ptr 2 0,vwi r0]) [⟨98,1,.cells [.bool b,vws b_1]⟩,⟨98,1,.cells [.bool b_2,vws b_3]⟩,⟨98,1,.cells [.bool r5,vws r6]⟩])
 | _=>false
abbrev FZ1 (SZ1:po):Fs:=az adb (ahm SZ1)
def Na:FnSh:=⟨[.rof,.rof],[]⟩
def Ic (SZ199:tT):SPT:=λa_ c_=>match a_ with
 | [.fls a,.fls b]=>SZ199 a b (λr0 r1 r2=>c_ (.agg [.ptr 0 0,vwi r0]) [⟨98,1,.cells [.bool r1,vws r2]⟩])
 | _=>false
abbrev Jy (SZ199:tT):Fs:=az Na (Ic SZ199)
def Vs:FnSh:=⟨[.agg [.flt,.flt,.flt]],[]⟩
def WU (SZ44:zR):SPT:=λa_ c_=>match a_ with
 | [.fl v_0,.fl v_1,.fl v_2]=>SZ44 v_0 v_1 v_2 (λr0 r1 r2=>c_ (.agg [.ptr 0 0,vwi r0]) [⟨98,1,.cells [.bool r1,vws r2]⟩])
 | _=>false
abbrev PD (SZ44:zR):Fs:=az Vs (WU SZ44)
def MK:FnSh:=⟨[.int .i64],[]⟩
def HM (SZ171:tt):SPT:=λa_ c_=>match a_ with
 | [.int e]=>SZ171 e (λr1 r2=>c_ (.agg [.ptr 0 0,vwi e]) [⟨98,1,.cells [.bool r1,vws r2]⟩])
 | _=>false
abbrev Jc (SZ171:tt):Fs:=az MK (HM SZ171)
def L7:FnSh:=⟨[.ptr 0 0,.ptr 1 0],[some (98,1,.cells [.bool,.nil]),some (98,1,.cells [.bool,.roi .u32])]⟩
def G4 (SZ125:sK):SPT:=λa_ c_=>match a_ with
 | [.bool b,.bool b_1,.ints b_2]=>SZ125 b b_1 b_2 (λr0 r1=>c_ (.ptr 0 0) [⟨98,1,.cells [.bool r0,vws r1]⟩,⟨98,1,.cells [.bool b_1,vws b_2]⟩])
 | _=>false
abbrev IF (SZ125:sK):Fs:=az L7 (G4 SZ125)
def U0:FnSh:=⟨[.agg [.ptr 0 0,.int .i64]],[some (98,1,.cells [.bool,.roi .u32])]⟩
def Wp (SZ16:mz):SPT:=λa_ c_=>match a_ with
 | [.int x,.bool b,.ints b_1]=>SZ16 x b b_1 (λr3 r4=>c_ (.agg [.ptr 1 0,vwi x]) [⟨98,1,.cells [.bool b,vws b_1]⟩,⟨98,1,.cells [.bool r3,vws r4]⟩])
 | _=>false
abbrev Cf (SZ16:mz):Fs:=az U0 (Wp SZ16)
def LQ:FnSh:=⟨[.ptr 0 0,.ptr 1 0,.ptr 1 0],[some (98,1,.cells [.bool,.nil]),some (98,1,.cells [.bool,.roi .u32])]⟩
def GM (SZ110:sF):SPT:=λa_ c_=>match a_ with
 | [.bool b,.bool b_1,.ints b_2]=>SZ110 b b_1 b_2 (λr0 r1=>c_ (.ptr 0 0) [⟨98,1,.cells [.bool r0,vws r1]⟩,⟨98,1,.cells [.bool b_1,vws b_2]⟩])
 | _=>false
abbrev Iz (SZ110:sF):Fs:=az LQ (GM SZ110)
def B5:FnSh:=⟨[.agg [.ptr 0 0,.int .i64],.agg [.ptr 0 0,.int .i64]],[some (98,1,.cells [.bool,.roi .u32])]⟩
def Wz (SZ23:qz):SPT:=λa_ c_=>match a_ with
 | [.int x,.int y,.bool b,.ints b_1]=>SZ23 x y b b_1 (λr0 r3 r4=>c_ (.agg [.ptr 1 0,vwi r0]) [⟨98,1,.cells [.bool b,vws b_1]⟩,⟨98,1,.cells [.bool r3,vws r4]⟩])
 | _=>false
abbrev Ns (SZ23:qz):Fs:=az B5 (Wz SZ23)
def L9:FnSh:=⟨[.int .i64],[]⟩
def G6 (SZ127:ls):SPT:=λa_ c_=>match a_ with
 | [.int n]=>SZ127 n (λr0 r1 r2=>c_ (.agg [.ptr 0 0,vwi r0]) [⟨98,1,.cells [.bool r1,vws r2]⟩])
 | _=>false
abbrev zc (SZ127:ls):Fs:=az L9 (G6 SZ127)
def U7:FnSh:=⟨[.agg [.ptr 0 0,.int .i64],.agg [.ptr 1 0,.int .i64]],[some (98,1,.cells [.bool,.roi .u32]),some (98,1,.cells [.bool,.roi .u32])]⟩
def Wu (SZ19:qx):SPT:=λa_ c_=>match a_ with
 | [.int x,.int y,.bool b,.ints b_1,.bool b_2,.ints b_3]=>SZ19 x y b b_1 b_2 b_3 (λr0=>c_ (vwi r0) [⟨98,1,.cells [.bool b,vws b_1]⟩,⟨98,1,.cells [.bool b_2,vws b_3]⟩])
 | _=>false
abbrev Np (SZ19:qx):Fs:=az U7 (Wu SZ19)
def Vh:FnSh:=⟨[.agg [.ptr 0 0,.int .i64],.agg [.ptr 1 0,.int .i64],.agg [.ptr 2 0,.int .i64]],[some (98,1,.cells [.bool,.roi .u32]),some (98,1,.cells [.bool,.roi .u32]),some (98,1,.cells [.bool,.roi .u32])]⟩
def WJ (SZ33:zP):SPT:=λa_ c_=>match a_ with
 | [.int x,.int y,.int room,.bool b,.ints b_1,.bool b_2,.ints b_3,.bool b_4,.ints b_5]=>SZ33 x y room b b_1 b_2 b_3 b_4 b_5 (λr0=>c_ (.bool r0) [⟨98,1,.cells [.bool b,vws b_1]⟩,⟨98,1,.cells [.bool b_2,vws b_3]⟩,⟨98,1,.cells [.bool b_4,vws b_5]⟩])
 | _=>false
abbrev Ym (SZ33:zP):Fs:=az Vh (WJ SZ33)
def Vg:FnSh:=⟨[.agg [.ptr 0 0,.int .i64],.agg [.ptr 1 0,.int .i64],.agg [.ptr 2 0,.int .i64]],[some (98,1,.cells [.bool,.roi .u32]),some (98,1,.cells [.bool,.roi .u32]),some (98,1,.cells [.bool,.roi .u32])]⟩
def WI (SZ32:zO):SPT:=λa_ c_=>match a_ with
 | [.int x,.int y,.int room,.bool b,.ints b_1,.bool b_2,.ints b_3,.bool b_4,.ints b_5]=>SZ32 x y room b b_1 b_2 b_3 b_4 b_5 (λr0=>c_ (.bool r0) [⟨98,1,.cells [.bool b,vws b_1]⟩,⟨98,1,.cells [.bool b_2,vws b_3]⟩,⟨98,1,.cells [.bool b_4,vws b_5]⟩])
 | _=>false
abbrev Yl (SZ32:zO):Fs:=az Vg (WI SZ32)
def U9:FnSh:=⟨[.agg [.ptr 0 0,.int .i64],.agg [.ptr 1 0,.int .i64],.bool,.agg [.ptr 2 0,.int .i64]],[some (98,1,.cells [.bool,.roi .u32]),some (98,1,.cells [.bool,.roi .u32]),some (98,1,.cells [.bool,.roi .u32])]⟩
def Ww (SZ21:zI):SPT:=λa_ c_=>match a_ with
 | [.int x,.int y,.bool apart,.int all,.bool b,.ints b_1,.bool b_2,.ints b_3,.bool b_4,.ints b_5]=>SZ21 x y apart all b b_1 b_2 b_3 b_4 b_5 (λr0=>c_ (.bool r0) [⟨98,1,.cells [.bool b,vws b_1]⟩,⟨98,1,.cells [.bool b_2,vws b_3]⟩,⟨98,1,.cells [.bool b_4,vws b_5]⟩])
 | _=>false
abbrev PB (SZ21:zI):Fs:=az U9 (Ww SZ21)
def B6:FnSh:=⟨[.agg [.int .u64,.int .u64,.int .u64],.agg [.int .u64,.int .u64,.int .u64]],[]⟩
end Go.Proofs.YtadejnnigmcpdaaGreatDoor
