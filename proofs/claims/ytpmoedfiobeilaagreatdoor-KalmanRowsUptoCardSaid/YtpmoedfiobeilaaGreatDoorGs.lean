/- The program's functions and their ties. Conditions: none. -/
import Derived.Test.YtpmoedfiobeilaaGreatDoorGp
import Derived.Test.YtpmoedfiobeilaaGreatDoorMachT
import Derived.Test.YtpmoedfiobeilaaGreatDoorProg
set_option linter.unusedVariables false
section
namespace Go.Proofs.YtpmoedfiobeilaaGreatDoor
open Go Go.Mach Go.Proofs
set_option maxRecDepth 50000
abbrev KV:=V->List Blk->Bool
abbrev SPT:=List Atom->KV->Bool
noncomputable abbrev Pg:Program:=Tryz.prog
def vqs:Nat → List V → List V
  | 0,t=>t
  | n+1,t=>.any::vqs n t
abbrev vwi (z:Int):V:=.int .i64 z
abbrev vwu (z:Int):V:=.int .u64 z
abbrev vwv (z:Int):V:=.int .u32 z
abbrev vwr (l:LI):V:=.roi .u64 l
abbrev vws (l:LI):V:=.roi .u32 l
theorem Tp {p:Nat → Prop} (h:p 0):∀ i,i<1 → p i
 | 0,_=>h
 | _+1,g=>by omega
theorem SN {p:Nat → Prop} (h:p 0) (h1:p 1):∀ i,i<2 → p i
 | 0,_=>h
 | 1,_=>h1
 | _+2,g=>by omega
def sqs:Nat → List Sh → List Sh
 | 0,t=>t
 | n+1,t=>.any::sqs n t
noncomputable def iI:Nat->Bool:=LS [120,110,21,16,48,180,158,198,209,15,8,6,7,51,17,73,59,60,22,63,70,93,67,69,90,92,132,105,168,135,106,82,164,205,199,115,155,156,1000211,1000177,1000176,5000006,2000079,3000063,3000058,3000057,4000096,4000084]
abbrev LT:=List (Nat × Fs)
abbrev TbS (A B:Nat->LT):Prop:=∀ N,OKL Pg iI (A N)->OKL Pg iI (B N)
noncomputable def fmd:Nat->Nat:=λg=>(cond (LS [68,110,112,113,127,128,129,130,131,138,140,142,158,159,160,167,190,195,205] g) 1 (cond (LS [133,136,137,169,170] g) 2 0))
noncomputable section
def L0 (N_:Nat):LT:=[]
def SD:FnSh:=⟨[.fb],[]⟩
def Pv (abz:Ku):SPT:=λa_ c_=>match a_ with
 | [.nat a0]=>abz a0 (λr0=>c_ (vwu r0) [])
 | _=>false
abbrev SO (abz:Ku):Fs:=ix SD (Pv abz)
def L1 (N_:Nat):LT:=(37,(SO (B3 N_)))::L0 N_
def OD:FnSh:=⟨[.int .u64],[]⟩
def ML (aau:EM):SPT:=λa_ c_=>match a_ with
 | [.int a0]=>aau a0 (λr0=>c_ (.flt r0) [])
 | _=>false
abbrev OK (aau:EM):Fs:=ix OD (ML aau)
def L2 (N_:Nat):LT:=(25,(OK (zz N_)))::L1 N_
def L3 (N_:Nat):LT:=ad (L2 N_) 12 ⟨[.roi .u64],[]⟩ [.is] (λS_ c_ l=>S_ l (λr0=>c_ (.slw 0) [⟨41,1,.flts r0⟩])) N_ (tB N_)
def L4 (N_:Nat):LT:=ad (L3 N_) 71 ⟨[.int .i64,.int .i64,.int .i64],[]⟩ [.i,.i,.i] (λS_ c_ rows cols n=>S_ rows cols n (λr0=>c_ (vwi r0) [])) N_ (qx N_)
def Hs:FnSh:=⟨[.flt],[]⟩
def MK (aat:EL):SPT:=λa_ c_=>match a_ with
 | [.fl a0]=>aat a0 (λr0=>c_ (vwu r0) [])
 | _=>false
abbrev OJ (aat:EL):Fs:=ix Hs (MK aat)
def L5 (N_:Nat):LT:=(37,(BW (OJ (xa N_)) (ofL (L4 N_) 37) Hs))::L4 N_
def L6 (N_:Nat):LT:=ad (L5 N_) 98 ⟨[.int .i64,.int .u64,.int .i64],[]⟩ [.i,.i,.i] (λS_ c_ exp frac most=>S_ exp frac most (λr0=>c_ (vwi r0) [])) N_ (Kj N_)
def L7 (N_:Nat):LT:=ad (L6 N_) 174 ⟨[.int .u64,.int .i64],[]⟩ [.i,.i] (λS_ c_ m e=>S_ m e (λr0 r1=>c_ (.tup [vwu r0,vwi r1]) [])) N_ (rN N_)
def L8 (N_:Nat):LT:=ad (L7 N_) 120 ⟨[.slw 0],[some (173,1,.ints .u32)]⟩ [.is] (λS_ c_ b=>S_ b (λr0=>c_ (.sl 0 0 r0) [⟨173,1,.ints .u32 b⟩])) N_ (PN N_)
def L9 (N_:Nat):LT:=ad (L8 N_) 175 ⟨[.int .u64],[]⟩ [.i] (λS_ c_ n=>S_ n (λr0=>c_ (vws r0) [])) N_ (Kd N_)
def L10 (N_:Nat):LT:=ao (L9 N_) 120 ⟨[.roi .u32],[]⟩ [.is] (λS_ c_ m=>S_ m (λr0=>c_ (vws r0) [])) N_ (vq N_)
def L11 (N_:Nat):LT:=ad (L10 N_) 154 ⟨[.roi .u32,.int .u64],[]⟩ [.is,.i] (λS_ c_ m n=>S_ m n (λr0=>c_ (vws r0) [])) N_ (tz N_)
def L12 (N_:Nat):LT:=ad (L11 N_) 147 ⟨[.int .u32],[]⟩ [.i] (λS_ c_ x=>S_ x (λr0=>c_ (vwi r0) [])) N_ (Nb N_)
def L13 (N_:Nat):LT:=ad (L12 N_) 114 ⟨[.ptr 0 0],[some (118,1,.cells [.bool,.roi .u32])]⟩ [.b,.is] (λS_ c_ b Vo=>S_ b Vo (λr0=>c_ (vwu r0) [⟨118,1,.cells [.bool b,vws Vo]⟩])) N_ (GQ0 N_)
def L14 (N_:Nat):LT:=ad (L13 N_) 115 ⟨[.roi .u32,.int .u64],[]⟩ [.is,.i] (λS_ c_ m n=>S_ m n (λr0=>c_ (vws r0) [])) N_ (Qe N_)
def L15 (N_:Nat):LT:=ad (L14 N_) 148 ⟨[.int .u32],[]⟩ [.i] (λS_ c_ x=>S_ x (λr0=>c_ (vwi r0) [])) N_ (JX N_)
def L16 (N_:Nat):LT:=ad (L15 N_) 116 ⟨[.ptr 0 0],[some (118,1,.cells [.bool,.roi .u32])]⟩ [.b,.is] (λS_ c_ b Vo=>S_ b Vo (λr0=>c_ (vwi r0) [⟨118,1,.cells [.bool b,vws Vo]⟩])) N_ (Qa N_)
def L17 (N_:Nat):LT:=ad (L16 N_) 118 ⟨[.roi .u32,.roi .u32],[]⟩ [.is,.is] (λS_ c_ a b=>S_ a b (λr0=>c_ (vwi r0) [])) N_ (Jy N_)
def L18 (N_:Nat):LT:=ad (L17 N_) 150 ⟨[.roi .u32,.int .i64],[]⟩ [.is,.i] (λS_ c_ m at_=>S_ m at_ (λr0=>c_ (vwu r0) [])) N_ (tx N_)
def L19 (N_:Nat):LT:=ad (L18 N_) 149 ⟨[.int .u64,.int .u64],[]⟩ [.i,.i] (λS_ c_ x y=>S_ x y (λr0 r1 r2 r3=>c_ (.tup [vwi r0,vwi r1,vwi r2,vwi r3]) [])) N_ (qt N_)
def L20 (N_:Nat):LT:=ad (L19 N_) 152 ⟨[.roi .u32,.int .u32],[]⟩ [.is,.i] (λS_ c_ m d=>S_ m d (λr0 r1=>c_ (.tup [vws r0,vwv r1]) [])) N_ (qs N_)
def L21 (N_:Nat):LT:=ad (L20 N_) 155 ⟨[.sl 0,.sl 1,.int .i64,.int .u64],[some (173,1,.ints .u32),some (173,1,.ints .u32)]⟩ [.n,.n,.n,.n,.i,.i,.is,.is] (λS_ c_ Wo Wb d_0 Wg j g b Vo=>S_ Wo Wb d_0 Wg j g b Vo (λr0 r1=>c_ (.bool r0) [⟨173,1,.ints .u32 r1⟩,⟨173,1,.ints .u32 Vo⟩])) N_ (J8 N_)
def L22 (N_:Nat):LT:=ad (L21 N_) 156 ⟨[.sl 0,.sl 1,.int .i64],[some (173,1,.ints .u32),some (173,1,.ints .u32)]⟩ [.n,.n,.n,.n,.i,.is,.is] (λS_ c_ Wo Wb d_0 Wg j b Vo=>S_ Wo Wb d_0 Wg j b Vo (λr0=>c_ (.tup []) [⟨173,1,.ints .u32 r0⟩,⟨173,1,.ints .u32 Vo⟩])) N_ (J9 N_)
def L23 (N_:Nat):LT:=ao (L22 N_) 120 ⟨[.sl 0],[some (173,1,.ints .u32)]⟩ [.n,.n,.is] (λS_ c_ VP Vt b=>S_ VP Vt b (λr1=>c_ (.sl 0 VP r1) [⟨173,1,.ints .u32 b⟩])) N_ (qq N_)
def L24 (N_:Nat):LT:=ao (L23 N_) 115 ⟨[.sl 0,.int .u64],[some (173,1,.ints .u32)]⟩ [.n,.n,.i,.is] (λS_ c_ VP Vt n b=>S_ VP Vt n b (λr0=>c_ (vws r0) [⟨173,1,.ints .u32 b⟩])) N_ (Kf N_)
def L25 (N_:Nat):LT:=ad (L24 N_) 95 ⟨[.roi .u32,.roi .u32],[]⟩ [.is,.is] (λS_ c_ a b=>S_ a b (λr0=>c_ (vws r0) [])) N_ (JB N_)
def L26 (N_:Nat):LT:=ad (L25 N_) 177 ⟨[.roi .u32,.roi .u32],[]⟩ [.is,.is] (λS_ c_ a b=>S_ a b (λr0=>c_ (vws r0) [])) N_ (qr N_)
def L27 (N_:Nat):LT:=ad (L26 N_) 178 ⟨[.roi .u32,.int .u64,.roi .u32,.int .u64],[]⟩ [.is,.i,.is,.i] (λS_ c_ a u b v=>S_ a u b v (λr0=>c_ (vws r0) [])) N_ (Kh N_)
def L28 (N_:Nat):LT:=ad (L27 N_) 151 ⟨[.roi .u32,.int .i64,.roi .u32,.int .i64],[]⟩ [.is,.i,.is,.i] (λS_ c_ a u b v=>S_ a u b v (λr0=>c_ (vws r0) [])) N_ (rM N_)
def L29 (N_:Nat):LT:=ad (L28 N_) 89 ⟨[.int .i64,.int .i64],[]⟩ [.i,.i] (λS_ c_ rows cols=>S_ rows cols (λr2=>c_ (.agg [vwi rows,vwi cols,.slw 0]) [⟨113,1,.own 120 RT1 r2 []⟩])) N_ (oJ N_)
def L30 (N_:Nat):LT:=ad (L29 N_) 91 ⟨[.rp [.bool,.roi .u32,.bool,.roi .u32] 0],[]⟩ [.b,.is,.b,.is] (λS_ c_ ZP VY z_2 z_3=>S_ ZP VY z_2 z_3 (λr0=>c_ (vwi r0) [])) N_ (vv N_)
def L31 (N_:Nat):LT:=ad (L30 N_) 176 ⟨[.roi .u32,.roi .u32],[]⟩ [.is,.is] (λS_ c_ a b=>S_ a b (λr0=>c_ (vws r0) [])) N_ (tA N_)
def L32 (N_:Nat):LT:=ad (L31 N_) 17 ⟨[.agg [.int .i64,.int .i64,.slw 0],.int .i64],[some (41,1,.flts)]⟩ [.i,.i,.i,.fs] (λS_ c_ VP Vt i b=>S_ VP Vt i b (λr0 r1=>c_ (.sl 0 r0 r1) [⟨41,1,.flts b⟩])) N_ (Gq N_)
def L33 (N_:Nat):LT:=ao (L32 N_) 17 ⟨[.agg [.int .i64,.int .i64,.rof],.int .i64],[]⟩ [.i,.i,.fs,.i] (λS_ c_ VP Vt VF i=>S_ VP Vt VF i (λr0=>c_ (.rof r0) [])) N_ (vt N_)
def L34 (N_:Nat):LT:=ad (L33 N_) 179 ⟨[.int .u64],[]⟩ [.i] (λS_ c_ x=>S_ x (λr0=>c_ (vwi r0) [])) N_ (Nc N_)
def L35 (N_:Nat):LT:=ad (L34 N_) 180 ⟨[.slw 0],[some (47,1,.ints .u64)]⟩ [.is] (λS_ c_ b=>S_ b (λr0=>c_ (.sl 0 0 r0) [⟨47,1,.ints .u64 b⟩])) N_ (PW N_)
def L36 (N_:Nat):LT:=ad (L35 N_) 161 ⟨[.roi .u64,.int .u64],[]⟩ [.is,.i] (λS_ c_ x n=>S_ x n (λr0=>c_ (vwr r0) [])) N_ (tw N_)
def L37 (N_:Nat):LT:=ad (L36 N_) 182 ⟨[.roi .u64,.roi .u64],[]⟩ [.is,.is] (λS_ c_ x y=>S_ x y (λr0=>c_ (vwi r0) [])) N_ (JQ N_)
def L38 (N_:Nat):LT:=ad (L37 N_) 204 ⟨[.int .u64],[]⟩ [.i] (λS_ c_ x=>S_ x (λr0=>c_ (vwi r0) [])) N_ (Qd N_)
def L39 (N_:Nat):LT:=ad (L38 N_) 191 ⟨[.roi .u64],[]⟩ [.is] (λS_ c_ x=>S_ x (λr0=>c_ (vwi r0) [])) N_ (oF N_)
def L40 (N_:Nat):LT:=ad (L39 N_) 192 ⟨[.int .u64,.int .u64],[]⟩ [.i,.i] (λS_ c_ x y=>S_ x y (λr0 r1 r2 r3 r4=>c_ (.agg [vwu r0,vwu r1,vwu r2,vwu r3,.bool r4]) [])) N_ (wn N_)
def L41 (N_:Nat):LT:=ad (L40 N_) 200 ⟨[.int .u64,.int .u64],[]⟩ [.i,.i] (λS_ c_ x y=>S_ x y (λr0 r1=>c_ (.tup [vwu r0,vwu r1]) [])) N_ (JN N_)
def TA:FnSh:=⟨[.int .u64,.int .u64,.int .u64],[]⟩
def TE (SQ1:RH):SPT:=λa_ c_=>match a_ with
 | [.int a0,.int a1,.int a2]=>SQ1 a0 a1 a2 (λr0 r1=>c_ (.tup [vwu r0,vwu r1]) [])
 | _=>false
abbrev FQ1 (SQ1:RH):Fs:=ix TA (TE SQ1)
def L42 (N_:Nat):LT:=(201,(FQ1 (sQ1 N_)))::L41 N_
def L43 (N_:Nat):LT:=ad (L42 N_) 184 ⟨[.int .u64,.int .u64,.int .u64,.int .u64],[]⟩ [.i,.i,.i,.i] (λS_ c_ a b c d=>S_ a b c d (λr0 r1=>c_ (.tup [vwu r0,vwu r1]) [])) N_ (tv N_)
def L44 (N_:Nat):LT:=ad (L43 N_) 207 ⟨[.roi .u64,.int .u64,.int .u64],[]⟩ [.is,.i,.i] (λS_ c_ x d more=>S_ x d more (λr0=>c_ (vwr r0) [])) N_ (J6 N_)
def TB:FnSh:=⟨[.int .u64,.int .u64,.int .u64],[]⟩
def TF (SQ4:RI):SPT:=λa_ c_=>match a_ with
 | [.int a0,.int a1,.int a2]=>SQ4 a0 a1 a2 (λr0 r1=>c_ (.tup [vwu r0,vwu r1]) [])
 | _=>false
abbrev FQ4 (SQ4:RI):Fs:=ix TB (TF SQ4)
def L45 (N_:Nat):LT:=(210,(FQ4 (sQ4 N_)))::L44 N_
def L46 (N_:Nat):LT:=ao (L45 N_) 180 ⟨[.sl 0],[some (47,1,.ints .u64)]⟩ [.n,.n,.is] (λS_ c_ V6 VD b=>S_ V6 VD b (λr1=>c_ (.sl 0 V6 r1) [⟨47,1,.ints .u64 b⟩])) N_ (oG N_)
def L47 (N_:Nat):LT:=ad (L46 N_) 165 ⟨[.roi .u64,.roi .u64],[]⟩ [.is,.is] (λS_ c_ x y=>S_ x y (λr0=>c_ (vwr r0) [])) N_ (JA N_)
def L48 (N_:Nat):LT:=ad (L47 N_) 132 ⟨[.agg [.int .i64,.int .i64,.slw 0],.int .i64,.int .i64],[some (157,1,.recs RT0)]⟩ [.i,.i,.i,.i,.r RT0] (λS_ c_ YV WK i j b=>S_ YV WK i j b (λr0 r1 r2 r3=>c_ (.agg [.rp [.bool r0,vwr r1,.bool r2,vwr r3] 0]) [⟨157,1,.recs RT0 b⟩])) N_ (e_ N_)
def L49 (N_:Nat):LT:=ad (L48 N_) 187 ⟨[.rp [.bool,.roi .u64,.bool,.roi .u64] 0],[]⟩ [.b,.is,.b,.is] (λS_ c_ V6 VD V0 V7=>S_ V6 VD V0 V7 (λr0=>c_ (vwi r0) [])) N_ (Kg N_)
def i7:FnSh:=⟨[.rof],[]⟩
def dP (VI:bV):SPT:=λa_ c_=>match a_ with
 | [.fls s]=>VI s (λr0=>c_ (.slw 0) [⟨41,1,.flts r0⟩])
 | _=>false
abbrev dS (VI:bV):Fs:=ix i7 (dP VI)
def L50 (N_:Nat):LT:=(20,(dS (aw N_)))::L49 N_
def L51 (N_:Nat):LT:=ad (L50 N_) 22 ⟨[.agg [.int .i64,.int .i64,.slw 0],.int .i64],[some (41,1,.flts)]⟩ [.i,.i,.i,.fs] (λS_ c_ VP Vt i b=>S_ VP Vt i b (λr0 r1=>c_ (.sl 0 r0 r1) [⟨41,1,.flts b⟩])) N_ (jG N_)
def L52 (N_:Nat):LT:=ao (L51 N_) 22 ⟨[.agg [.int .i64,.int .i64,.rof],.int .i64],[]⟩ [.i,.i,.fs,.i] (λS_ c_ VP Vt VF i=>S_ VP Vt VF i (λr0=>c_ (.rof r0) [])) N_ (oI N_)
def Jf:FnSh:=⟨[.flt],[]⟩
def zG (Y1:xY):SPT:=λa_ c_=>match a_ with
 | [.fl x]=>Y1 x (λr0=>c_ (.flt r0) [])
 | _=>false
abbrev Gn (Y1:xY):Fs:=ix Jf (zG Y1)
def L53 (N_:Nat):LT:=(107,(Gn (vc N_)))::L52 N_
def MH:FnSh:=⟨[.fb],[]⟩
def MN (abB:O0):SPT:=λa_ c_=>match a_ with
 | [.nat x]=>abB x (λr0=>c_ (.flt r0) [])
 | _=>false
abbrev PA (abB:O0):Fs:=ix MH (MN abB)
def L54 (N_:Nat):LT:=ad (L53 N_) 85 ⟨[.flt,.int .i64],[]⟩ [.f,.i] (λS_ c_ f sign=>S_ f sign (λr0=>c_ (.bool r0) [])) N_ (rL N_)
def L55 (N_:Nat):LT:=ad1 1 (L54 N_) 57 ⟨[.ptr 0 0,.flt],[some (103,1,.cells [.bool,.rof,.int .i64,.int .i64,.rof,.rof,.flt,.flt,.nil,.nil,.flt])]⟩ [.f,.b,.fs,.i,.i,.fs,.fs,.f,.f,.f] (λS_ c_ x b Vo Vq Vu Vx VC VJ VN VT=>S_ x b Vo Vq Vu Vx VC VJ VN VT (λr1=>c_ (.flt x) (.bool r1))) N_ (pS N_)
def L56 (N_:Nat):LT:=ad1 1 (L55 N_) 58 ⟨[.ptr 0 0,.flt,.flt],[some (103,1,.cells [.bool,.rof,.int .i64,.int .i64,.rof,.rof,.flt,.flt,.nil,.nil,.flt])]⟩ [.f,.f,.b,.fs,.i,.i,.fs,.fs,.f,.f,.f] (λS_ c_ a b Vo Vq Vu Vx VC VJ VN VT VZ=>S_ a b Vo Vq Vu Vx VC VJ VN VT VZ (λr0 r1=>c_ (.flt r0) (.bool r1))) N_ (nS N_)
def L57 (N_:Nat):LT:=ad1 1 (L56 N_) 63 ⟨[.ptr 0 0,.rof,.rof],[some (103,1,.cells [.bool,.rof,.int .i64,.int .i64,.rof,.rof,.flt,.flt,.nil,.nil,.flt])]⟩ [.fs,.fs,.b,.fs,.i,.i,.fs,.fs,.f,.f,.f] (λS_ c_ a b Vo Vq Vu Vx VC VJ VN VT VZ=>S_ a b Vo Vq Vu Vx VC VJ VN VT VZ (λr0 r1=>c_ (.flt r0) (.bool r1))) N_ (vo N_)
def L58 (N_:Nat):LT:=ao1 1 (L57 N_) 57 ⟨[.ptr 0 0,.flt],[some (103,1,.cells [.bool,.rof,.int .i64,.int .i64,.rof,.rof,.flt,.flt,.slw 1,.nil,.flt]),some (41,1,.flts)]⟩ [.f,.b,.fs,.i,.i,.fs,.fs,.f,.f,.f,.fs] (λS_ c_ x b Vo Vq Vu Vx VC VJ VN VT VZ=>S_ x b Vo Vq Vu Vx VC VJ VN VT VZ (λr1=>c_ (.flt x) (.bool r1))) N_ (PX N_)
def L59 (N_:Nat):LT:=ao1 1 (L58 N_) 58 ⟨[.ptr 0 0,.flt,.flt],[some (103,1,.cells [.bool,.rof,.int .i64,.int .i64,.rof,.rof,.flt,.flt,.slw 1,.nil,.flt]),some (41,1,.flts)]⟩ [.f,.f,.b,.fs,.i,.i,.fs,.fs,.f,.f,.f,.fs] (λS_ c_ a b Vo Vq Vu Vx VC VJ VN VT VZ VB=>S_ a b Vo Vq Vu Vx VC VJ VN VT VZ VB (λr0 r1=>c_ (.flt r0) (.bool r1))) N_ (Qc N_)
def L60 (N_:Nat):LT:=ao1 1 (L59 N_) 63 ⟨[.ptr 0 0,.rof,.rof],[some (103,1,.cells [.bool,.rof,.int .i64,.int .i64,.rof,.rof,.flt,.flt,.slw 1,.nil,.flt]),some (41,1,.flts)]⟩ [.fs,.fs,.b,.fs,.i,.i,.fs,.fs,.f,.f,.f,.fs] (λS_ c_ a b Vo Vq Vu Vx VC VJ VN VT VZ VB=>S_ a b Vo Vq Vu Vx VC VJ VN VT VZ VB (λr0 r1=>c_ (.flt r0) (.bool r1))) N_ (Qb N_)
def L61 (N_:Nat):LT:=ao1 1 (L60 N_) 63 ⟨[.ptr 0 0,.rof,.slw 1],[some (103,1,.cells [.bool,.rof,.int .i64,.int .i64,.rof,.rof,.flt,.flt,.slw 1,.nil,.flt]),some (41,1,.flts)]⟩ [.fs,.b,.fs,.i,.i,.fs,.fs,.f,.f,.f,.fs] (λS_ c_ a b Vo Vq Vu Vx VC VJ VN VT VZ=>S_ a b Vo Vq Vu Vx VC VJ VN VT VZ (λr0 r1=>c_ (.flt r0) (.bool r1))) N_ (P9 N_)
def L62 (N_:Nat):LT:=ad1 2 (L61 N_) 84 ⟨[.ptr 0 0],[some (103,1,.cells [.bool,.rof,.int .i64,.int .i64,.rof,.rof,.flt,.flt,.slw 1,.nil,.flt]),some (41,1,.flts)]⟩ [.b,.fs,.i,.i,.fs,.fs,.f,.f,.f,.fs] (λS_ c_ b Vo Vq Vu Vx VC VJ VN VT VZ=>S_ b Vo Vq Vu Vx VC VJ VN VT VZ (c_ (.bool b) (.any))) N_ (JL N_)
def L63 (N_:Nat):LT:=ao1 1 (L62 N_) 57 ⟨[.ptr 0 0,.flt],[some (103,1,.cells [.bool,.rof,.int .i64,.int .i64,.rof,.rof,.flt,.flt,.slw 1,.slw 2,.flt]),some (41,1,.flts),some (41,1,.flts)]⟩ [.f,.b,.fs,.i,.i,.fs,.fs,.f,.f,.f,.fs,.fs] (λS_ c_ x b Vo Vq Vu Vx VC VJ VN VT VZ VB=>S_ x b Vo Vq Vu Vx VC VJ VN VT VZ VB (λr1=>c_ (.flt x) (.bool r1))) N_ (PE N_)
def L64 (N_:Nat):LT:=ao1 1 (L63 N_) 58 ⟨[.ptr 0 0,.flt,.flt],[some (103,1,.cells [.bool,.rof,.int .i64,.int .i64,.rof,.rof,.flt,.flt,.slw 1,.slw 2,.flt]),some (41,1,.flts),some (41,1,.flts)]⟩ [.f,.f,.b,.fs,.i,.i,.fs,.fs,.f,.f,.f,.fs,.fs] (λS_ c_ a b Vo Vq Vu Vx VC VJ VN VT VZ VB V3=>S_ a b Vo Vq Vu Vx VC VJ VN VT VZ VB V3 (λr0 r1=>c_ (.flt r0) (.bool r1))) N_ (PC N_)
def L65 (N_:Nat):LT:=ad (L64 N_) 86 ⟨[.agg [.int .i64,.int .i64,.rof],.int .i64],[]⟩ [.i,.i,.fs,.i] (λS_ c_ VP Vt VF j=>S_ VP Vt VF j (λr0=>c_ (.slw 0) [⟨41,1,.flts r0⟩])) N_ (oH N_)
def L66 (N_:Nat):LT:=ao1 1 (L65 N_) 63 ⟨[.ptr 0 0,.sl 1,.slw 2],[some (103,1,.cells [.bool,.rof,.int .i64,.int .i64,.rof,.rof,.flt,.flt,.slw 3,.slw 4,.flt]),some (41,1,.flts),some (41,1,.flts),some (41,1,.flts),some (41,1,.flts)]⟩ [.n,.n,.b,.fs,.i,.i,.fs,.fs,.f,.f,.f,.fs,.fs,.fs,.fs] (λS_ c_ Xw VL b Vo Vq Vu Vx VC VJ VN VT VZ VB V3 Wh=>S_ Xw VL b Vo Vq Vu Vx VC VJ VN VT VZ VB V3 Wh (λr0 r1=>c_ (.flt r0) (.bool r1))) N_ (PS N_)
def L67 (N_:Nat):LT:=ad (L66 N_) 60 ⟨[.ptr 0 0,.agg [.int .i64,.int .i64,.slw 1],.agg [.int .i64,.int .i64,.rof]],[some (103,1,.cells [.bool,.rof,.int .i64,.int .i64,.rof,.rof,.flt,.flt,.slw 2,.slw 3,.flt]),some (41,1,.flts),some (41,1,.flts),some (41,1,.flts)]⟩ [.i,.i,.i,.i,.fs,.b,.fs,.i,.i,.fs,.fs,.f,.f,.f,.fs,.fs,.fs] (λS_ c_ Xw VL Ys Vo Vq b Vu Vx VC VJ VN VT VZ VB V3 Wh Ws=>S_ Xw VL Ys Vo Vq b Vu Vx VC VJ VN VT VZ VB V3 Wh Ws (λr2 r14=>c_ (.agg [vwi Xw,vwi Vo,.slw 4]) [⟨103,1,.cells [.bool r2,.rof Vu,vwi Vx,vwi VC,.rof VJ,.rof VN,.flt VT,.flt VZ,.slw 2,.slw 3,.flt VB]⟩,⟨41,1,.flts V3⟩,⟨41,1,.flts Wh⟩,⟨41,1,.flts Ws⟩,⟨41,1,.flts r14⟩])) N_ (de N_)
def L68 (N_:Nat):LT:=ao1 1 (L67 N_) 63 ⟨[.ptr 0 0,.sl 1,.sl 2],[some (103,1,.cells [.bool,.rof,.int .i64,.int .i64,.rof,.rof,.flt,.flt,.slw 3,.slw 4,.flt]),some (41,1,.flts),some (41,1,.flts),some (41,1,.flts),some (41,1,.flts)]⟩ [.n,.n,.n,.n,.b,.fs,.i,.i,.fs,.fs,.f,.f,.f,.fs,.fs,.fs,.fs] (λS_ c_ Xw VL Ys Vo b Vq Vu Vx VC VJ VN VT VZ VB V3 Wh Ws=>S_ Xw VL Ys Vo b Vq Vu Vx VC VJ VN VT VZ VB V3 Wh Ws (λr0 r1=>c_ (.flt r0) (.bool r1))) N_ (PR N_)
def L69 (N_:Nat):LT:=ad (L68 N_) 62 ⟨[.int .i64,.int .i64,.ptr 0 0,.ptr 1 0,.ptr 2 0],[some (70,1,.cells [.ptr 3 0]),some (26,1,.cells [.int .i64,.int .i64,.slw 4]),some (26,1,.cells [.int .i64,.int .i64,.slw 5]),some (103,1,.cells [.bool,.rof,.int .i64,.int .i64,.rof,.rof,.flt,.flt,.slw 6,.slw 7,.flt]),some (41,1,.flts),some (41,1,.flts),some (41,1,.flts),some (41,1,.flts)]⟩ [.i,.i,.i,.i,.i,.i,.b,.fs,.i,.i,.fs,.fs,.f,.f,.f,.fs,.fs,.fs,.fs] (λS_ c_ i j b Vo Vq Vu Vx VC VJ VN VT VZ VB V3 Wh Ws XF Xy WA=>S_ i j b Vo Vq Vu Vx VC VJ VN VT VZ VB V3 Wh Ws XF Xy WA (λr0 r5=>c_ (.flt r0) [⟨70,1,.cells [.ptr 3 0]⟩,⟨26,1,.cells [vwi b,vwi Vo,.slw 4]⟩,⟨26,1,.cells [vwi Vq,vwi Vu,.slw 5]⟩,⟨103,1,.cells [.bool r5,.rof VC,vwi VJ,vwi VN,.rof VT,.rof VZ,.flt VB,.flt V3,.slw 6,.slw 7,.flt Wh]⟩,⟨41,1,.flts Ws⟩,⟨41,1,.flts XF⟩,⟨41,1,.flts Xy⟩,⟨41,1,.flts WA⟩])) N_ (bv N_)
def L70 (N_:Nat):LT:=ad (L69 N_) 61 ⟨[.int .i64,.fn 62 [.ptr 0 0,.ptr 1 0,.ptr 2 0]],[some (70,1,.cells [.ptr 3 0]),some (26,1,.cells [.int .i64,.int .i64,.slw 4]),some (26,1,.cells [.int .i64,.int .i64,.slw 5]),some (103,1,.cells [.bool,.rof,.int .i64,.int .i64,.rof,.rof,.flt,.flt,.slw 6,.slw 7,.flt]),some (41,1,.flts),some (41,1,.flts),some (41,1,.flts),some (41,1,.flts)]⟩ [.i,.i,.i,.i,.i,.b,.fs,.i,.i,.fs,.fs,.f,.f,.f,.fs,.fs,.fs,.fs] (λS_ c_ n b Vo Vq Vu Vx VC VJ VN VT VZ VB V3 Wh Ws XF Xy WA=>S_ n b Vo Vq Vu Vx VC VJ VN VT VZ VB V3 Wh Ws XF Xy WA (λr6 r19=>c_ (.agg [vwi n,vwi n,.slw 8]) [⟨70,1,.cells [.ptr 3 0]⟩,⟨26,1,.cells [vwi b,vwi Vo,.slw 4]⟩,⟨26,1,.cells [vwi Vq,vwi Vu,.slw 5]⟩,⟨103,1,.cells [.bool r6,.rof VC,vwi VJ,vwi VN,.rof VT,.rof VZ,.flt VB,.flt V3,.slw 6,.slw 7,.flt Wh]⟩,⟨41,1,.flts Ws⟩,⟨41,1,.flts XF⟩,⟨41,1,.flts Xy⟩,⟨41,1,.flts WA⟩,⟨41,1,.flts r19⟩])) N_ (b9 N_)
def L71 (N_:Nat):LT:=ad (L70 N_) 36 ⟨[.ptr 0 0],[some (103,1,.cells [.bool,.rof,.int .i64,.int .i64,.rof,.rof,.flt,.flt,.slw 1,.slw 2,.flt]),some (41,1,.flts),some (41,1,.flts)]⟩ [.b,.fs,.i,.i,.fs,.fs,.f,.f,.f,.fs,.fs] (λS_ c_ b Vo Vq Vu Vx VC VJ VN VT VZ VB=>S_ b Vo Vq Vu Vx VC VJ VN VT VZ VB (λr0 r1 r2 r13=>c_ (.agg [vwi r0,vwi r1,.slw 3]) [⟨103,1,.cells [.bool r2,.rof Vo,vwi Vq,vwi Vu,.rof Vx,.rof VC,.flt VJ,.flt VN,.slw 1,.slw 2,.flt VT]⟩,⟨41,1,.flts VZ⟩,⟨41,1,.flts VB⟩,⟨41,1,.flts r13⟩])) N_ (cG N_)
def L72 (N_:Nat):LT:=ao1 2 (L71 N_) 84 ⟨[.ptr 0 0],[some (103,1,.cells [.bool,.rof,.int .i64,.int .i64,.rof,.rof,.flt,.flt,.slw 1,.slw 2,.flt]),some (41,1,.flts),some (41,1,.flts)]⟩ [.b,.fs,.i,.i,.fs,.fs,.f,.f,.f,.fs,.fs] (λS_ c_ b Vo Vq Vu Vx VC VJ VN VT VZ VB=>S_ b Vo Vq Vu Vx VC VJ VN VT VZ VB (c_ (.bool b) (.any))) N_ (JH N_)
def L73 (N_:Nat):LT:=ad (L72 N_) 8 ⟨[.slw 0],[some (24,1,.cells [.slw 1,.slw 2,.slw 3,.slw 4,.sl 5]),some (41,1,.flts),some (41,1,.flts),some (41,1,.flts),some (41,1,.flts),some (41,1,.flts)]⟩ [.n,.n,.fs,.fs,.fs,.fs,.fs] (λS_ c_ b Vo Vq Vu Vx VC VJ=>S_ b Vo Vq Vu Vx VC VJ (λr2 r3 r4 r5 r6=>c_ (.tup []) [⟨24,1,.cells [.slw 1,.slw 2,.slw 3,.slw 4,.sl 5 b Vo]⟩,⟨41,1,.flts r2⟩,⟨41,1,.flts r3⟩,⟨41,1,.flts r4⟩,⟨41,1,.flts r5⟩,⟨41,1,.flts r6⟩])) N_ (GQ6 N_)
def L74 (N_:Nat):LT:=ao (L73 N_) 8 ⟨[.slw 0],[some (24,1,.cells [.slw 1,.slw 2,.slw 3,.slw 4,.slw 5]),some (41,1,.flts),some (41,1,.flts),some (41,1,.flts),some (41,1,.flts),some (41,1,.flts)]⟩ [.fs,.fs,.fs,.fs,.fs] (λS_ c_ b Vo Vq Vu Vx=>S_ b Vo Vq Vu Vx (λr0 r1 r2 r3 r4=>c_ (.tup []) [⟨24,1,.cells [.slw 1,.slw 2,.slw 3,.slw 4,.slw 5]⟩,⟨41,1,.flts r0⟩,⟨41,1,.flts r1⟩,⟨41,1,.flts r2⟩,⟨41,1,.flts r3⟩,⟨41,1,.flts r4⟩])) N_ (GQ7 N_)
def L75 (N_:Nat):LT:=upM Pg iI N_ fmd (L74 N_) [24,35,168,134,167,190,131,195,197,205,127,160,158,159,103,54,33,48,47,68,67,153,113,110,49,87,13,4,122,123,121,77]
def L76 (N_:Nat):LT:=ad (L75 N_) 101 ⟨[.int .u64,.agg [.int .u64,.int .i64,.int .i64]],[]⟩ [.i,.i,.i,.i] (λS_ c_ b WM WU Xf=>S_ b WM WU Xf (λr0=>c_ (.bool r0) [])) N_ (JP N_)
def L77 (N_:Nat):LT:=ad (L76 N_) 102 ⟨[.agg [.int .u64,.int .i64,.int .i64]],[]⟩ [.i,.i,.i] (λS_ c_ WM WU Xf=>S_ WM WU Xf (λr0=>c_ (vwu r0) [])) N_ (vp N_)
def L78 (N_:Nat):LT:=ad (L77 N_) 5 ⟨[.rl RT3,.int .i64],[]⟩ [.r RT3,.i] (λS_ c_ l cols=>S_ l cols (λr0 r2 r3 r4=>c_ (.tup [.agg [vwi r0,vwi cols,.slw 0],.slw 1,.slw 2]) [⟨41,1,.flts r2⟩,⟨41,1,.flts r3⟩,⟨41,1,.flts r4⟩])) N_ (P2 N_)
def L79 (N_:Nat):LT:=ad (L78 N_) 97 ⟨[.flt],[]⟩ [.f] (λS_ c_ x=>S_ x (λr0 r1 r2=>c_ (.tup [.bool r0,vwi r1,vwu r2]) [])) N_ (qv N_)
def L80 (N_:Nat):LT:=ad (L79 N_) 64 ⟨[.flt,.flt],[]⟩ [.f,.f] (λS_ c_ a b=>S_ a b (λr0=>c_ (.bool r0) [])) N_ (tC N_)
def L81 (N_:Nat):LT:=ad (L80 N_) 143 ⟨[.flt],[]⟩ [.f] (λS_ c_ x=>S_ x (λr0 r1 r2 r3=>c_ (.tup [.agg [.bool r0,vwu r1,vwi r2],vwi r3]) [])) N_ (qu N_)
def L82 (N_:Nat):LT:=ad (L81 N_) 144 ⟨[.ptr 0 0,.int .u64],[some (118,1,.cells [.bool,.nil])]⟩ [.i,.b] (λS_ c_ n b=>S_ n b (λr0 r1=>c_ (.ptr 0 0) [⟨118,1,.cells [.bool r0,vws r1]⟩])) N_ (P7 N_)
def L83 (N_:Nat):LT:=ad (L82 N_) 145 ⟨[.ptr 0 0,.ptr 0 0],[some (118,1,.cells [.bool,.roi .u32])]⟩ [.b,.is] (λS_ c_ b Vo=>S_ b Vo (λr0 r1=>c_ (.ptr 0 0) [⟨118,1,.cells [.bool r0,vws r1]⟩])) N_ (Ka N_)
def L84 (N_:Nat):LT:=ad (L83 N_) 109 ⟨[.flt],[]⟩ [.f] (λS_ c_ x=>S_ x (λr0 r1 r2=>c_ (.agg [.ptr 0 0,vwi r0]) [⟨118,1,.cells [.bool r1,vws r2]⟩])) N_ (xR N_)
def L85 (N_:Nat):LT:=ad (L84 N_) 141 ⟨[.ptr 0 0,.ptr 1 0,.int .u64],[some (118,1,.cells [.bool,.nil]),some (118,1,.cells [.bool,.roi .u32])]⟩ [.i,.b,.b,.is] (λS_ c_ n b Vo Vq=>S_ n b Vo Vq (λr0 r1=>c_ (.ptr 0 0) [⟨118,1,.cells [.bool r0,vws r1]⟩,⟨118,1,.cells [.bool Vo,vws Vq]⟩])) N_ (JO N_)
def M86 (N_:Nat):LT:=ad (L85 N_) 154 ⟨[.roi .u32,.int .u64],[]⟩ [.is,.i] (λS_ c_ m n=>S_ m n (c_ (.nil) []) (λr0 r1=>c_ (.sl 0 0 r0) [⟨173,1,.ints .u32 r1⟩])) N_ (JE N_)
def L86 (N_:Nat):LT:=ad (L85 N_) 119 ⟨[.roi .u32,.roi .u32],[]⟩ [.is,.is] (λS_ c_ a b=>S_ a b (λr0 r1=>c_ (.tup [vws r0,vws r1]) [])) N_ (Cq N_)
def L87 (N_:Nat):LT:=ad (L86 N_) 117 ⟨[.roi .u32,.roi .u32],[]⟩ [.is,.is] (λS_ c_ a b=>S_ a b (λr0=>c_ (vws r0) [])) N_ (Kc N_)
def L88 (N_:Nat):LT:=ad (L87 N_) 94 ⟨[.ptr 0 0,.bool,.roi .u32,.roi .u32],[some (120,1,.cells [.bool,.nil,.bool,.nil])]⟩ [.b,.is,.is,.b,.b] (λS_ c_ neg a b Vo Vq=>S_ neg a b Vo Vq (λr0 r1 r2 r3=>c_ (.ptr 0 0) [⟨120,1,.cells [.bool r0,vws r1,.bool r2,vws r3]⟩])) N_ (PJ N_)
def L89 (N_:Nat):LT:=ad (L88 N_) 173 ⟨[.ptr 0 0,.int .i64],[some (118,1,.cells [.bool,.nil])]⟩ [.i,.b] (λS_ c_ n b=>S_ n b (λr0 r1=>c_ (.ptr 0 0) [⟨118,1,.cells [.bool r0,vws r1]⟩])) N_ (JW N_)
def L90 (N_:Nat):LT:=ad1 2 (L89 N_) 96 ⟨[.rp [.bool,.roi .u32,.bool,.roi .u32] 0],[]⟩ [.b,.is,.b,.is] (λS_ c_ r_0 Wy XK Yg=>S_ r_0 Wy XK Yg (λr0=>c_ (vws r0) (.any))) N_ (JR N_)
def L91 (N_:Nat):LT:=ad (L90 N_) 90 ⟨[.ptr 0 0,.rp [.bool,.roi .u32,.bool,.roi .u32] 0],[some (120,1,.cells [.bool,.roi .u32,.bool,.roi .u32])]⟩ [.b,.is,.b,.is,.b,.is,.b,.is] (λS_ c_ V6 VD V0 V7 b Vo Vq Vu=>S_ V6 VD V0 V7 b Vo Vq Vu (λr0 r1 r2 r3=>c_ (.ptr 0 0) [⟨120,1,.cells [.bool r0,vws r1,.bool r2,vws r3]⟩])) N_ (Jx N_)
def L92 (N_:Nat):LT:=ad (L91 N_) 66 ⟨[.agg [.int .i64,.int .i64,.rl RT2]],[]⟩ [.i,.i,.r RT2] (λS_ c_ VP Vt VF=>S_ VP Vt VF (λr2=>c_ (.agg [vwi VP,vwi Vt,.slw 0]) [⟨113,1,.own 120 RT1 r2 []⟩])) N_ (Jw N_)
def L93 (N_:Nat):LT:=ao1 2 (L92 N_) 96 ⟨[.ptr 0 0],[some (120,1,.cells [.bool,.roi .u32,.bool,.roi .u32])]⟩ [.b,.is,.b,.is] (λS_ c_ b Vo Vq Vu=>S_ b Vo Vq Vu (λr0=>c_ (vws r0) (.any))) N_ (GQ5 N_)
def L94 (N_:Nat):LT:=ad (L93 N_) 70 ⟨[.ptr 0 0,.ptr 1 0,.ptr 2 0],[some (120,1,.cells [.bool,.nil,.bool,.nil]),some (120,1,.cells [.bool,.roi .u32,.bool,.roi .u32]),some (120,1,.cells [.bool,.roi .u32,.bool,.roi .u32])]⟩ [.b,.b,.b,.is,.b,.is,.b,.is,.b,.is] (λS_ c_ b Vo Vq Vu Vx VC VJ VN VT VZ=>S_ b Vo Vq Vu Vx VC VJ VN VT VZ (λr0 r1 r2 r3=>c_ (.ptr 0 0) [⟨120,1,.cells [.bool r0,vws r1,.bool r2,vws r3]⟩,⟨120,1,.cells [.bool Vq,vws Vu,.bool Vx,vws VC]⟩,⟨120,1,.cells [.bool VJ,vws VN,.bool VT,vws VZ]⟩])) N_ (PG N_)
def L95 (N_:Nat):LT:=ad (L94 N_) 93 ⟨[.ptr 0 0,.ptr 1 0,.ptr 2 0],[some (120,1,.cells [.bool,.nil,.bool,.nil]),some (120,1,.cells [.bool,.roi .u32,.bool,.roi .u32]),some (120,1,.cells [.bool,.roi .u32,.bool,.roi .u32])]⟩ [.b,.b,.b,.is,.b,.is,.b,.is,.b,.is] (λS_ c_ b Vo Vq Vu Vx VC VJ VN VT VZ=>S_ b Vo Vq Vu Vx VC VJ VN VT VZ (λr0 r1 r2 r3=>c_ (.ptr 0 0) [⟨120,1,.cells [.bool r0,vws r1,.bool r2,vws r3]⟩,⟨120,1,.cells [.bool Vq,vws Vu,.bool Vx,vws VC]⟩,⟨120,1,.cells [.bool VJ,vws VN,.bool VT,vws VZ]⟩])) N_ (PF N_)
def L96 (N_:Nat):LT:=ad (L95 N_) 111 ⟨[.ptr 0 0,.ptr 1 0],[some (120,1,.cells [.bool,.roi .u32,.bool,.roi .u32]),some (120,1,.cells [.bool,.roi .u32,.bool,.roi .u32])]⟩ [.b,.is,.b,.is,.b,.is,.b,.is] (λS_ c_ b Vo Vq Vu Vx VC VJ VN=>S_ b Vo Vq Vu Vx VC VJ VN (λr9 r11=>c_ (.tup [.ptr 2 0,.ptr 3 0]) [⟨120,1,.cells [.bool b,vws Vo,.bool Vq,vws Vu]⟩,⟨120,1,.cells [.bool Vx,vws VC,.bool VJ,vws VN]⟩,⟨118,1,.cells [.bool b,vws r9]⟩,⟨118,1,.cells [.bool Vx,vws r11]⟩])) N_ (Qg N_)
def L97 (N_:Nat):LT:=ad (L96 N_) 146 ⟨[.ptr 0 0,.ptr 1 0,.ptr 2 0,.bool],[some (118,1,.cells [.bool,.nil]),some (118,1,.cells [.bool,.roi .u32]),some (118,1,.cells [.bool,.roi .u32])]⟩ [.b,.b,.b,.is,.b,.is] (λS_ c_ turn b Vo Vq Vu Vx=>S_ turn b Vo Vq Vu Vx (λr0 r1=>c_ (.ptr 0 0) [⟨118,1,.cells [.bool r0,vws r1]⟩,⟨118,1,.cells [.bool Vo,vws Vq]⟩,⟨118,1,.cells [.bool Vu,vws Vx]⟩])) N_ (Jz N_)
def L98 (N_:Nat):LT:=ao (L97 N_) 94 ⟨[.ptr 0 0,.bool,.roi .u32,.roi .u32],[some (120,1,.cells [.bool,.roi .u32,.bool,.roi .u32])]⟩ [.b,.is,.is,.b,.is,.b,.is] (λS_ c_ neg a b Vo Vq Vu Vx=>S_ neg a b Vo Vq Vu Vx (λr0 r1 r2 r3=>c_ (.ptr 0 0) [⟨120,1,.cells [.bool r0,vws r1,.bool r2,vws r3]⟩])) N_ (P_ N_)
def L99 (N_:Nat):LT:=ad (L98 N_) 99 ⟨[.agg [.int .i64,.int .i64,.rof],.int .i64],[]⟩ [.i,.i,.fs,.i] (λS_ c_ VP Vt VF j=>S_ VP Vt VF j (λr0=>c_ (.slw 0) [⟨41,1,.flts r0⟩])) N_ (oK N_)
def Ql (N_:Nat):LT:=ad (L99 N_) 75 ⟨[.agg [.int .i64,.int .i64,.rof]],[]⟩ [.i,.i,.fs] (λS_ c_ VP Vt VF=>S_ VP Vt VF (λr2=>c_ (.agg [vwi VP,vwi Vt,.slw 0]) [⟨41,1,.flts r2⟩])) N_ (oL N_)
def Qm (N_:Nat):LT:=ad (Ql N_) 125 ⟨[.ptr 0 0,.int .u64],[some (182,1,.cells [.bool,.nil])]⟩ [.i,.b] (λS_ c_ n b=>S_ n b (λr0 r1=>c_ (.ptr 0 0) [⟨182,1,.cells [.bool r0,vwr r1]⟩])) N_ (PI N_)
def Qn (N_:Nat):LT:=ad (Qm N_) 126 ⟨[.ptr 0 0,.ptr 0 0],[some (182,1,.cells [.bool,.roi .u64])]⟩ [.b,.is] (λS_ c_ b Vo=>S_ b Vo (λr0 r1=>c_ (.ptr 0 0) [⟨182,1,.cells [.bool r0,vwr r1]⟩])) N_ (PY N_)
def Qo (N_:Nat):LT:=ad (Qn N_) 162 ⟨[.ptr 0 0,.int .i64],[some (182,1,.cells [.bool,.nil])]⟩ [.i,.b] (λS_ c_ n b=>S_ n b (λr0 r1=>c_ (.ptr 0 0) [⟨182,1,.cells [.bool r0,vwr r1]⟩])) N_ (P4 N_)
def Qp (N_:Nat):LT:=ad (Qo N_) 193 ⟨[.roi .u64,.int .i64],[]⟩ [.is,.i] (λS_ c_ x from_=>S_ x from_ (λr0=>c_ (vwu r0) [])) N_ (vn N_)
def Qq (N_:Nat):LT:=ad (Qp N_) 206 ⟨[.roi .u64,.roi .u64],[]⟩ [.is,.is] (λS_ c_ x y=>S_ x y (λr0=>c_ (vwr r0) [])) N_ (Ke N_)
def Qr (N_:Nat):LT:=ad (Qq N_) 194 ⟨[.agg [.int .u64,.int .u64,.int .u64,.int .u64,.bool],.roi .u64,.roi .u64],[]⟩ [.i,.i,.i,.i,.b,.is,.is] (λS_ c_ w_0 w_1 YS ZO w_4 x y=>S_ w_0 w_1 YS ZO w_4 x y (λr0 r1=>c_ (.tup [vwr r0,vwr r1]) [])) N_ (dW N_)
def Qs (N_:Nat):LT:=ad (Qr N_) 208 ⟨[.int .u64,.int .u64,.int .u64],[]⟩ [.i,.i,.i] (λS_ c_ hi lo y=>S_ hi lo y (λr0 r1=>c_ (.tup [vwu r0,vwu r1]) [])) N_ (JM N_)
def Qt (N_:Nat):LT:=ad (Qs N_) 196 ⟨[.roi .u64,.int .u64],[]⟩ [.is,.i] (λS_ c_ x d=>S_ x d (λr0 r1=>c_ (.tup [vwr r0,vwu r1]) [])) N_ (qp N_)
def Qu (N_:Nat):LT:=ad (Qt N_) 209 ⟨[.sl 0,.roi .u64],[some (47,1,.ints .u64)]⟩ [.n,.n,.is,.is] (λS_ c_ Wo Wb v b=>S_ Wo Wb v b (λr0=>c_ (vwu r0) [⟨47,1,.ints .u64 b⟩])) N_ (sU N_)
def Qv (N_:Nat):LT:=ad (Qu N_) 198 ⟨[.sl 0,.roi .u64],[some (47,1,.ints .u64)]⟩ [.n,.n,.is,.is] (λS_ c_ Wo Wb v b=>S_ Wo Wb v b (λr0 r1=>c_ (vwu r0) [⟨47,1,.ints .u64 r1⟩])) N_ (ut N_)
def Qw (N_:Nat):LT:=ao (Qv N_) 209 ⟨[.sl 0,.sl 1],[some (47,1,.ints .u64),some (47,1,.ints .u64)]⟩ [.n,.n,.n,.n,.is,.is] (λS_ c_ Wo Wb v_0 Wj b Vo=>S_ Wo Wb v_0 Wj b Vo (λr0=>c_ (vwu r0) [⟨47,1,.ints .u64 b⟩,⟨47,1,.ints .u64 Vo⟩])) N_ (Gp N_)
def Qx (N_:Nat):LT:=ao (Qw N_) 198 ⟨[.sl 0,.sl 1],[some (47,1,.ints .u64),some (47,1,.ints .u64)]⟩ [.n,.n,.n,.n,.is,.is] (λS_ c_ Wo Wb v_0 Wj b Vo=>S_ Wo Wb v_0 Wj b Vo (λr0 r1=>c_ (vwu r0) [⟨47,1,.ints .u64 r1⟩,⟨47,1,.ints .u64 Vo⟩])) N_ (J7 N_)
def Ko (N_:Nat):LT:=ad (Qx N_) 199 ⟨[.sl 0,.int .u64],[some (47,1,.ints .u64)]⟩ [.n,.n,.i,.is] (λS_ c_ V6 VD n b=>S_ V6 VD n b (λr0 r1=>c_ (.tup [vwr r0,.bool r1]) [⟨47,1,.ints .u64 b⟩])) N_ (Gr N_)
def TM (N_:Nat):LT:=ad (Ko N_) 161 ⟨[.roi .u64,.int .u64],[]⟩ [.is,.i] (λS_ c_ x n=>S_ x n (c_ (.nil) []) (λr0 r1=>c_ (.sl 0 0 r0) [⟨47,1,.ints .u64 r1⟩])) N_ (JC N_)
def Qy (N_:Nat):LT:=ad (Ko N_) 183 ⟨[.roi .u64,.roi .u64],[]⟩ [.is,.is] (λS_ c_ x y=>S_ x y (λr0 r1=>c_ (.tup [vwr r0,vwr r1]) [])) N_ (Ki N_)
def Qz (N_:Nat):LT:=ad (Qy N_) 181 ⟨[.roi .u64,.roi .u64],[]⟩ [.is,.is] (λS_ c_ x y=>S_ x y (λr0=>c_ (vwr r0) [])) N_ (P1 N_)
def QA (N_:Nat):LT:=ad (Qz N_) 163 ⟨[.ptr 0 0,.bool,.roi .u64,.roi .u64],[some (188,1,.cells [.bool,.nil,.bool,.nil])]⟩ [.b,.is,.is,.b,.b] (λS_ c_ neg a b Vo Vq=>S_ neg a b Vo Vq (λr0 r1 r2 r3=>c_ (.ptr 0 0) [⟨188,1,.cells [.bool r0,vwr r1,.bool r2,vwr r3]⟩])) N_ (P8 N_)
def QB (N_:Nat):LT:=ad (QA N_) 164 ⟨[.ptr 0 0,.bool,.roi .u64,.slw 1],[some (188,1,.cells [.bool,.nil,.bool,.nil]),some (47,1,.ints .u64)]⟩ [.b,.is,.b,.b,.is] (λS_ c_ neg a b Vo Vq=>S_ neg a b Vo Vq (λr0 r2=>c_ (.ptr 0 0) [⟨188,1,.cells [.bool r0,vwr a,.bool r2,.slw 1]⟩,⟨47,1,.ints .u64 Vq⟩])) N_ (Qf N_)
def QC (N_:Nat):LT:=ao (QB N_) 164 ⟨[.ptr 0 0,.bool,.roi .u64,.roi .u64],[some (188,1,.cells [.bool,.nil,.bool,.nil])]⟩ [.b,.is,.is,.b,.b] (λS_ c_ neg a b Vo Vq=>S_ neg a b Vo Vq (λr0 r2=>c_ (.ptr 0 0) [⟨188,1,.cells [.bool r0,vwr a,.bool r2,vwr b]⟩])) N_ (PO N_)
def QD (N_:Nat):LT:=ad (QC N_) 186 ⟨[.ptr 0 0,.rp [.bool,.roi .u64,.bool,.roi .u64] 0],[some (188,1,.cells [.bool,.nil,.bool,.nil])]⟩ [.b,.is,.b,.is,.b,.b] (λS_ c_ V6 VD V0 V7 b Vo=>S_ V6 VD V0 V7 b Vo (λr0 r1 r2 r3=>c_ (.ptr 0 0) [⟨188,1,.cells [.bool r0,vwr r1,.bool r2,vwr r3]⟩])) N_ (Qj N_)
def QE (N_:Nat):LT:=ad (QD N_) 202 ⟨[.roi .u64,.roi .u64],[]⟩ [.is,.is] (λS_ c_ x y=>S_ x y (λr0=>c_ (vwr r0) [])) N_ (JD N_)
def QF (N_:Nat):LT:=ad (QE N_) 211 ⟨[.roi .u64,.roi .u64],[]⟩ [.is,.is] (λS_ c_ x y=>S_ x y (λr0=>c_ (vwr r0) [])) N_ (vm N_)
def QG (N_:Nat):LT:=ad (QF N_) 203 ⟨[.ptr 0 0,.ptr 0 0,.bool,.roi .u64],[some (182,1,.cells [.bool,.roi .u64])]⟩ [.b,.is,.b,.is] (λS_ c_ neg y b Vo=>S_ neg y b Vo (λr0 r1=>c_ (.ptr 0 0) [⟨182,1,.cells [.bool r0,vwr r1]⟩])) N_ (PU N_)
def QH (N_:Nat):LT:=ad (QG N_) 185 ⟨[.ptr 0 0,.rp [.bool,.roi .u64,.bool,.roi .u64] 0,.ptr 1 0],[some (188,1,.cells [.bool,.nil,.bool,.nil]),some (188,1,.cells [.bool,.roi .u64,.bool,.roi .u64])]⟩ [.b,.is,.b,.is,.b,.b,.b,.is,.b,.is] (λS_ c_ V6 VD V0 V7 b Vo Vq Vu Vx VC=>S_ V6 VD V0 V7 b Vo Vq Vu Vx VC (λr0 r1 r2 r3=>c_ (.ptr 0 0) [⟨188,1,.cells [.bool r0,vwr r1,.bool r2,vwr r3]⟩,⟨188,1,.cells [.bool Vq,vwr Vu,.bool Vx,vwr VC]⟩])) N_ (PQ N_)
def QI (N_:Nat):LT:=ad (QH N_) 166 ⟨[.ptr 0 0,.rp [.bool,.roi .u64,.bool,.roi .u64] 0,.rp [.bool,.roi .u64,.bool,.roi .u64] 0],[some (188,1,.cells [.bool,.nil,.bool,.nil])]⟩ [.b,.is,.b,.is,.b,.is,.b,.is,.b,.b] (λS_ c_ V6 VD V0 V7 Yb Wa WD Xk b Vo=>S_ V6 VD V0 V7 Yb Wa WD Xk b Vo (λr0 r1 r2 r3=>c_ (.ptr 0 0) [⟨188,1,.cells [.bool r0,vwr r1,.bool r2,vwr r3]⟩])) N_ (JK N_)
def QJ (N_:Nat):LT:=ad (QI N_) 189 ⟨[.ptr 0 0,.bool,.roi .u64,.roi .u64,.roi .u64,.roi .u64],[some (188,1,.cells [.bool,.nil,.bool,.nil])]⟩ [.b,.is,.is,.is,.is,.b,.b] (λS_ c_ neg a b c d Vo Vq=>S_ neg a b c d Vo Vq (λr0 r1 r2 r3=>c_ (.ptr 0 0) [⟨188,1,.cells [.bool r0,vwr r1,.bool r2,vwr r3]⟩])) N_ (PK N_)
def QK (N_:Nat):LT:=ad (QJ N_) 172 ⟨[.ptr 0 0,.rp [.bool,.roi .u64,.bool,.roi .u64] 0,.rp [.bool,.roi .u64,.bool,.roi .u64] 0],[some (188,1,.cells [.bool,.nil,.bool,.nil])]⟩ [.b,.is,.b,.is,.b,.is,.b,.is,.b,.b] (λS_ c_ V6 VD V0 V7 Yb Wa WD Xk b Vo=>S_ V6 VD V0 V7 Yb Wa WD Xk b Vo (λr0 r1 r2 r3=>c_ (.ptr 0 0) [⟨188,1,.cells [.bool r0,vwr r1,.bool r2,vwr r3]⟩])) N_ (JJ N_)
def QL (N_:Nat):LT:=ad (QK N_) 188 ⟨[.ptr 0 0,.rp [.bool,.roi .u64,.bool,.roi .u64] 0,.rp [.bool,.roi .u64,.bool,.roi .u64] 0],[some (188,1,.cells [.bool,.nil,.bool,.nil])]⟩ [.b,.is,.b,.is,.b,.is,.b,.is,.b,.b] (λS_ c_ V6 VD V0 V7 Yb Wa WD Xk b Vo=>S_ V6 VD V0 V7 Yb Wa WD Xk b Vo (λr0 r1 r2 r3=>c_ (.ptr 0 0) [⟨188,1,.cells [.bool r0,vwr r1,.bool r2,vwr r3]⟩])) N_ (JI N_)
def QM (N_:Nat):LT:=ao (QL N_) 185 ⟨[.ptr 0 0,.rp [.bool,.roi .u64,.bool,.roi .u64] 0,.rp [.bool,.roi .u64,.bool,.roi .u64] 0],[some (188,1,.cells [.bool,.nil,.bool,.nil])]⟩ [.b,.is,.b,.is,.b,.is,.b,.is,.b,.b] (λS_ c_ V6 VD V0 V7 Yb Wa WD Xk b Vo=>S_ V6 VD V0 V7 Yb Wa WD Xk b Vo (λr0 r1 r2 r3=>c_ (.ptr 0 0) [⟨188,1,.cells [.bool r0,vwr r1,.bool r2,vwr r3]⟩])) N_ (Nf N_)
def QN (N_:Nat):LT:=ad (QM N_) 23 ⟨[.rof,.rof],[]⟩ [.fs,.fs] (λS_ c_ a b=>S_ a b (λr0=>c_ (.bool r0) [])) N_ (PH N_)
def QO (N_:Nat):LT:=ad (QN N_) 9 ⟨[.agg [.rof,.int .i64,.int .i64,.rof],.agg [.rof,.int .i64,.int .i64,.rof]],[]⟩ [.fs,.i,.i,.fs,.fs,.i,.i,.fs] (λS_ c_ Xw VL WJ Xx Ys Vo Vq Vu=>S_ Xw VL WJ Xx Ys Vo Vq Vu (λr0=>c_ (.bool r0) [])) N_ (PM N_)
def QP (N_:Nat):LT:=ad (QO N_) 10 ⟨[.agg [.flt,.flt,.flt,.rof],.agg [.flt,.flt,.flt,.rof]],[]⟩ [.f,.f,.f,.fs,.f,.f,.f,.fs] (λS_ c_ Xw VL WJ Xx Ys Vo Vq Vu=>S_ Xw VL WJ Xx Ys Vo Vq Vu (λr0=>c_ (.bool r0) [])) N_ (P3 N_)
def QQ (N_:Nat):LT:=upM Pg iI N_ fmd (QP N_) [169,170,137,133,130,129,128,112,140,142,138,139,44,72,78]
def QR (N_:Nat):LT:=ad (QQ N_) 100 ⟨[.int .u64,.agg [.int .u64,.int .i64,.int .i64]],[]⟩ [.i,.i,.i,.i] (λS_ c_ b WM WU Xf=>S_ b WM WU Xf (λr0 r1 r2=>c_ (.tup [.bool r0,vwi r1,vwu r2]) [])) N_ (P6 N_)
def QS (N_:Nat):LT:=ad (QR N_) 76 ⟨[.int .u64,.agg [.int .u64,.int .i64,.int .i64]],[]⟩ [.i,.i,.i,.i] (λS_ c_ b WM WU Xf=>S_ b WM WU Xf (λr0=>c_ (vwi r0) [])) N_ (P5 N_)
def QT (N_:Nat):LT:=ad (QS N_) 38 ⟨[.rof],[]⟩ [.fs] (λS_ c_ l=>S_ l (λr0=>c_ (.bool r0) [])) N_ (JF N_)
def QU (N_:Nat):LT:=ad (QT N_) 42 ⟨[.agg [.int .i64,.int .i64,.rof]],[]⟩ [.i,.i,.fs] (λS_ c_ VP Vt VF=>S_ VP Vt VF (λr0=>c_ (vwi r0) [])) N_ (tD N_)
def QV (N_:Nat):LT:=ad (QU N_) 39 ⟨[.agg [.int .i64,.int .i64,.rof]],[]⟩ [.i,.i,.fs] (λS_ c_ VP Vt VF=>S_ VP Vt VF (λr0=>c_ (vwi r0) [])) N_ (JZ N_)
def QW (N_:Nat):LT:=ad (QV N_) 108 ⟨[.agg [.ptr 0 0,.int .i64]],[some (118,1,.cells [.bool,.roi .u32])]⟩ [.i,.b,.is] (λS_ c_ x b Vo=>S_ x b Vo (λr2 r3 r4 r5=>c_ (.ptr 1 0) [⟨118,1,.cells [.bool b,vws Vo]⟩,⟨120,1,.cells [.bool r2,vws r3,.bool r4,vws r5]⟩])) N_ (Qh N_)
def QX (N_:Nat):LT:=ad (QW N_) 92 ⟨[.ptr 0 0,.ptr 0 0,.ptr 1 0],[some (120,1,.cells [.bool,.roi .u32,.bool,.roi .u32]),some (120,1,.cells [.bool,.roi .u32,.bool,.roi .u32])]⟩ [.b,.is,.b,.is,.b,.is,.b,.is] (λS_ c_ b Vo Vq Vu Vx VC VJ VN=>S_ b Vo Vq Vu Vx VC VJ VN (λr0 r1 r2 r3=>c_ (.ptr 0 0) [⟨120,1,.cells [.bool r0,vws r1,.bool r2,vws r3]⟩,⟨120,1,.cells [.bool Vx,vws VC,.bool VJ,vws VN]⟩])) N_ (PL N_)
def QY (N_:Nat):LT:=ad (QX N_) 69 ⟨[.agg [.int .i64,.int .i64,.slw 0],.int .i64,.int .i64,.ptr 1 0],[some (113,1,.own 120 RT1),some (120,1,.cells [.bool,.roi .u32,.bool,.roi .u32])]⟩ [.i,.i,.i,.i,.r RT1,.b,.is,.b,.is] (λS_ c_ VP Vt i k_ b Vo Vq Vu Vx=>S_ VP Vt i k_ b Vo Vq Vu Vx (λr0=>c_ (.tup []) [⟨113,1,.own 120 RT1 r0 []⟩,⟨120,1,.cells [.bool Vo,vws Vq,.bool Vu,vws Vx]⟩])) N_ (PT N_)
def QZ (N_:Nat):LT:=ad (QY N_) 41 ⟨[.agg [.int .i64,.int .i64,.rl RT2]],[]⟩ [.i,.i,.r RT2] (λS_ c_ VP Vt VF=>S_ VP Vt VF (λr0=>c_ (vwi r0) [])) N_ (J3 N_)
def Q0 (N_:Nat):LT:=ad (QZ N_) 43 ⟨[.int .i64,.rof,.flt],[]⟩ [.i,.fs,.f] (λS_ c_ n h r=>S_ n h r (λr0=>c_ (vwi r0) [])) N_ (vu N_)
def Q1 (N_:Nat):LT:=ad (Q0 N_) 46 ⟨[.ptr 0 0,.flt],[some (83,1,.cells [.bool])]⟩ [.f,.b] (λS_ c_ x b=>S_ x b (λr1=>c_ (.flt x) [⟨83,1,.cells [.bool r1]⟩])) N_ (PP N_)
def Q2 (N_:Nat):LT:=ad (Q1 N_) 73 ⟨[.ptr 0 0,.rof,.rof],[some (83,1,.cells [.bool])]⟩ [.fs,.fs,.b] (λS_ c_ a b Vo=>S_ a b Vo (λr0 r1=>c_ (.flt r0) [⟨83,1,.cells [.bool r1]⟩])) N_ (qB N_)
def Q3 (N_:Nat):LT:=ao (Q2 N_) 73 ⟨[.ptr 0 0,.rof,.slw 1],[some (83,1,.cells [.bool]),some (41,1,.flts)]⟩ [.fs,.b,.fs] (λS_ c_ a b Vo=>S_ a b Vo (λr0 r1=>c_ (.flt r0) [⟨83,1,.cells [.bool r1]⟩,⟨41,1,.flts Vo⟩])) N_ (Kb N_)
def Q4 (N_:Nat):LT:=ad (Q3 N_) 45 ⟨[.agg [.rof,.int .i64,.int .i64,.rof],.rof,.flt,.ptr 0 0],[some (83,1,.cells [.bool])]⟩ [.fs,.i,.i,.fs,.fs,.f,.b] (λS_ c_ Xv Wn Xi Xj h r b=>S_ Xv Wn Xi Xj h r b (λr0 r1 r2 r3=>c_ (.tup [.flt r0,.slw 1,.flt r1]) [⟨83,1,.cells [.bool r2]⟩,⟨41,1,.flts r3⟩])) N_ (JU N_)
def Q5 (N_:Nat):LT:=ad (Q4 N_) 74 ⟨[.agg [.int .i64,.int .i64,.rof],.agg [.int .i64,.int .i64,.rof],.ptr 0 0],[some (83,1,.cells [.bool])]⟩ [.i,.i,.fs,.i,.i,.fs,.b] (λS_ c_ Xw VL WJ Ys Vo Vq b=>S_ Xw VL WJ Ys Vo Vq b (λr2 r3=>c_ (.agg [vwi Xw,vwi Vo,.slw 1]) [⟨83,1,.cells [.bool r2]⟩,⟨41,1,.flts r3⟩])) N_ (J_ N_)
def Q6 (N_:Nat):LT:=ao (Q5 N_) 73 ⟨[.ptr 0 0,.sl 1,.sl 2],[some (83,1,.cells [.bool]),some (41,1,.flts),some (41,1,.flts)]⟩ [.n,.n,.n,.n,.b,.fs,.fs] (λS_ c_ Xw VL Ys Vo b Vq Vu=>S_ Xw VL Ys Vo b Vq Vu (λr0 r1=>c_ (.flt r0) [⟨83,1,.cells [.bool r1]⟩,⟨41,1,.flts Vq⟩,⟨41,1,.flts Vu⟩])) N_ (J2 N_)
def Kp (N_:Nat):LT:=ad (Q6 N_) 50 ⟨[.agg [.int .i64,.int .i64,.rof],.rof,.flt,.rof,.ptr 0 0],[some (83,1,.cells [.bool])]⟩ [.i,.i,.fs,.fs,.f,.fs,.b] (λS_ c_ Zh XA Yf h r k_ b=>S_ Zh XA Yf h r k_ b (λr0 r1 r2 r3=>c_ (.agg [vwi r0,vwi r1,.slw 1]) [⟨83,1,.cells [.bool r2]⟩,⟨41,1,.flts r3⟩])) N_ (J0 N_)
def SE:FnSh:=⟨[.flt],[]⟩
def MM (abA:Kv):SPT:=λa_ c_=>match a_ with
 | [.fl x]=>abA x (λr0=>c_ (vwi r0) [])
 | _=>false
abbrev SP (abA:Kv):Fs:=ix SE (MM abA)
def Q7 (N_:Nat):LT:=(52,(SP (ME N_)))::Kp N_
def Pt:FnSh:=⟨[.fb],[]⟩
def SF (SQ8:Tb):SPT:=λa_ c_=>match a_ with
 | [.nat x]=>SQ8 x (λr0=>c_ (vwi r0) [])
 | _=>false
abbrev FQ8 (SQ8:Tb):Fs:=ix Pt (SF SQ8)
def Q8 (N_:Nat):LT:=ad (Q7 N_) 30 ⟨[.rof],[]⟩ [.fs] (λS_ c_ l=>S_ l (λr0=>c_ (.bool r0) [])) N_ (JV N_)
def Kq (N_:Nat):LT:=ad (Q8 N_) 19 ⟨[.agg [.int .i64,.int .i64,.rof]],[]⟩ [.i,.i,.fs] (λS_ c_ VP Vt VF=>S_ VP Vt VF (λr0=>c_ (vwi r0) [])) N_ (PV N_)
def OC:FnSh:=⟨[.flt,.flt],[]⟩
def Ge (aas:EK):SPT:=λa_ c_=>match a_ with
 | [.fl a,.fl b]=>aas a b (λr0=>c_ (.bool r0) [])
 | _=>false
abbrev OI (aas:EK):Fs:=ix OC (Ge aas)
def Q9 (N_:Nat):LT:=(53,(OI (D0 N_)))::Kq N_
def Pu:FnSh:=⟨[.fb,.fb],[]⟩
def SG (SQ9:Tc):SPT:=λa_ c_=>match a_ with
 | [.nat a,.nat b]=>SQ9 a b (λr0=>c_ (.bool r0) [])
 | _=>false
abbrev FQ9 (SQ9:Tc):Fs:=ix Pu (SG SQ9)
def Q_ (N_:Nat):LT:=ad (Q9 N_) 31 ⟨[.agg [.int .i64,.int .i64,.rof]],[]⟩ [.i,.i,.fs] (λS_ c_ VP Vt VF=>S_ VP Vt VF (λr0=>c_ (.bool r0) [])) N_ (Qk N_)
def Ra (N_:Nat):LT:=ad (Q_ N_) 157 ⟨[.int .u64,.agg [.int .u64,.int .i64,.int .i64]],[]⟩ [.i,.i,.i,.i] (λS_ c_ b WM WU Xf=>S_ b WM WU Xf (λr0 r1 r2 r3=>c_ (.tup [.agg [.bool r0,vwu r1,vwi r2],vwi r3]) [])) N_ (Qi N_)
def Rb (N_:Nat):LT:=ad (Ra N_) 105 ⟨[.agg [.int .i64,.int .i64,.slw 0]],[some (157,1,.recs RT0)]⟩ [.i,.i,.r RT0] (λS_ c_ YV WK b=>S_ YV WK b (c_ (.tup []) [⟨157,1,.recs RT0 b⟩])) N_ (cP N_)
def Rd (N_:Nat):LT:=ad (Rb N_) 171 ⟨[.int .i64,.int .i64],[]⟩ [.i,.i] (λS_ c_ a b=>S_ a b (λr0 r1 r2 r3=>c_ (.ptr 0 0) [⟨188,1,.cells [.bool r0,vwr r1,.bool r2,vwr r3]⟩])) N_ (oE N_)
def Re (N_:Nat):LT:=ad (Rd N_) 135 ⟨[.agg [.int .i64,.int .i64,.slw 0],.int .i64,.int .i64,.agg [.rp [.bool,.roi .u64,.bool,.roi .u64] 0]],[some (157,1,.recs RT0)]⟩ [.i,.i,.i,.i,.b,.is,.b,.is,.r RT0] (λS_ c_ YV WK i k_ V6 VD V0 V7 b=>S_ YV WK i k_ V6 VD V0 V7 b (λr0=>c_ (.tup []) [⟨157,1,.recs RT0 r0⟩])) N_ (e9 N_)
def Rf (N_:Nat):LT:=ad (Re N_) 83 ⟨[.int .i64,.rof,.flt],[]⟩ [.i,.fs,.f] (λS_ c_ n h r=>S_ n h r (λr0=>c_ (vwi r0) [])) N_ (nJ N_)
def Rg (N_:Nat):LT:=upM Pg iI N_ fmd (Rf N_) [136,124,88,28]
def Rh (N_:Nat):LT:=ad (Rg N_) 26 ⟨[.agg [.rof,.int .i64,.int .i64,.rof]],[]⟩ [.fs,.i,.i,.fs] (λS_ c_ Wd VK VS VV=>S_ Wd VK VS VV (λr0=>c_ (vwi r0) [])) N_ (qz N_)
def Ri (N_:Nat):LT:=ad (Rh N_) 65 ⟨[.agg [.int .i64,.int .i64,.rof]],[]⟩ [.i,.i,.fs] (λS_ c_ VP Vt VF=>S_ VP Vt VF (λr2=>c_ (.agg [vwi VP,vwi Vt,.slw 0]) [⟨113,1,.own 120 RT1 r2 []⟩])) N_ (qw N_)
def Rj (N_:Nat):LT:=ad (Ri N_) 15 ⟨[.int .i64,.agg [.int .i64,.int .i64,.slw 0],.slw 1,.sl 2],[some (41,1,.flts),some (41,1,.flts),some (41,1,.flts)]⟩ [.i,.i,.i,.n,.n,.fs,.fs,.fs] (λS_ c_ n WH WC ZP VY b Vo Vq=>S_ n WH WC ZP VY b Vo Vq (λr0=>c_ (vwi r0) [⟨41,1,.flts b⟩,⟨41,1,.flts Vo⟩,⟨41,1,.flts Vq⟩])) N_ (J4 N_)
def Rk (N_:Nat):LT:=ad (Rj N_) 104 ⟨[.flt],[]⟩ [.f] (λS_ c_ x=>S_ x (λr0 r1 r2 r3=>c_ (.agg [.rp [.bool r0,vwr r1,.bool r2,vwr r3] 0]) [])) N_ (jk N_)
def Rl (N_:Nat):LT:=ad (Rk N_) 81 ⟨[.agg [.int .i64,.int .i64,.rof]],[]⟩ [.i,.i,.fs] (λS_ c_ VP Vt VF=>S_ VP Vt VF (λr2=>c_ (.agg [vwi VP,vwi Vt,.slw 0]) [⟨157,1,.recs RT0 r2⟩])) N_ (iJ N_)
def Rm (N_:Nat):LT:=ad (Rl N_) 106 ⟨[.agg [.int .i64,.int .i64,.slw 0]],[some (157,1,.recs RT0)]⟩ [.i,.i,.r RT0] (λS_ c_ YV WK b=>S_ YV WK b (λr0 r1=>c_ (vwi r0) [⟨157,1,.recs RT0 r1⟩])) N_ (dh N_)
def Rn (N_:Nat):LT:=ao (Rm N_) 15 ⟨[.int .i64,.agg [.int .i64,.int .i64,.slw 0],.slw 1,.slw 2],[some (41,1,.flts),some (41,1,.flts),some (41,1,.flts)]⟩ [.i,.i,.i,.fs,.fs,.fs] (λS_ c_ n WH WC b Vo Vq=>S_ n WH WC b Vo Vq (λr0=>c_ (vwi r0) [⟨41,1,.flts b⟩,⟨41,1,.flts Vo⟩,⟨41,1,.flts Vq⟩])) N_ (J5 N_)
def Ro (N_:Nat):LT:=upM Pg iI N_ fmd (Rn N_) [82,27,40]
def Rp (N_:Nat):LT:=ad (Ro N_) 14 ⟨[.agg [.rof,.int .i64,.int .i64,.rof]],[]⟩ [.fs,.i,.i,.fs] (λS_ c_ Wd VK VS VV=>S_ Wd VK VS VV (λr0=>c_ (vwi r0) [])) N_ (qy N_)
def Rq (N_:Nat):LT:=ad (Rp N_) 51 ⟨[.slw 0,.agg [.int .i64,.int .i64,.slw 1],.ptr 2 0],[some (41,1,.flts),some (41,1,.flts),some (83,1,.cells [.bool])]⟩ [.i,.i,.fs,.fs,.b] (λS_ c_ Zh XA b Vo Vq=>S_ Zh XA b Vo Vq (λr0 r1 r2=>c_ (.tup [.agg [.nil,vwi r0,vwi r1,.nil],vwi r2]) [⟨41,1,.flts b⟩,⟨41,1,.flts Vo⟩,⟨83,1,.cells [.bool Vq]⟩]) (λr2 r6=>c_ (.tup [.agg [.slw 0,vwi Zh,vwi XA,.slw 3],vwi r2]) [⟨41,1,.flts b⟩,⟨41,1,.flts Vo⟩,⟨83,1,.cells [.bool Vq]⟩,⟨41,1,.flts r6⟩])) N_ (P0 N_)
def Rr (N_:Nat):LT:=ad (Rq N_) 29 ⟨[.agg [.rof,.int .i64,.int .i64,.rof],.rof,.flt,.flt,.bool],[]⟩ [.fs,.i,.i,.fs,.fs,.f,.f,.b] (λS_ c_ Xv Wn Xi Xj h r z short=>S_ Xv Wn Xi Xj h r z short (λr0 r1 r2 r3 r4 r5=>c_ (.tup [.agg [.nil,vwi r0,vwi r1,.nil],.agg [.flt r2,.flt r3,.flt r4,.nil],vwi r5]) []) (λr0 r1 r2 r3 r4 r5 r6=>c_ (.tup [.agg [.nil,vwi r0,vwi r1,.nil],.agg [.flt r2,.flt r3,.flt r4,.slw 0],vwi r5]) [⟨41,1,.flts r6⟩]) (λr0 r1 r2 r3 r4 r5 r6 r7 r8=>c_ (.tup [.agg [.slw 0,vwi r0,vwi r1,.slw 1],.agg [.flt r2,.flt r3,.flt r4,.slw 2],vwi r5]) [⟨41,1,.flts r6⟩,⟨41,1,.flts r7⟩,⟨41,1,.flts r8⟩])) N_ (oN N_)
def Rs (N_:Nat):LT:=ad (Rr N_) 16 ⟨[.agg [.rof,.int .i64,.int .i64,.rof],.sl 0,.flt,.flt],[some (41,1,.flts)]⟩ [.fs,.i,.i,.fs,.n,.n,.f,.f,.fs] (λS_ c_ Xv Wn Xi Xj WH WC r z b=>S_ Xv Wn Xi Xj WH WC r z b (λr0 r1 r2 r3 r4 r5 r6 r7 r8=>c_ (.tup [.agg [.rof r0,vwi r1,vwi r2,.rof r3],.agg [.flt r4,.flt r5,.flt r6,.rof r7],vwi r8]) [⟨41,1,.flts b⟩])) N_ (JY N_)
def Rt (N_:Nat):LT:=ad (Rs N_) 6 ⟨[.agg [.rof,.int .i64,.int .i64,.rof],.agg [.int .i64,.int .i64,.slw 0],.slw 1,.sl 2],[some (41,1,.flts),some (41,1,.flts),some (41,1,.flts)]⟩ [.fs,.i,.i,.fs,.i,.i,.n,.n,.fs,.fs,.fs] (λS_ c_ Xv Wn Xi Xj WH WC ZP VY b Vo Vq=>S_ Xv Wn Xi Xj WH WC ZP VY b Vo Vq (λr0 r1 r2 r3 r4 r5 r6=>c_ (.tup [.agg [.rof r0,vwi r1,vwi r2,.rof r3],.rl RT4 r4,vwi r5,vwi r6]) [⟨41,1,.flts b⟩,⟨41,1,.flts Vo⟩,⟨41,1,.flts Vq⟩])) N_ (JS N_)
def Ru (N_:Nat):LT:=ad (Rt N_) 55 ⟨[.agg [.int .i64,.int .i64,.rof]],[]⟩ [.i,.i,.fs] (λS_ c_ VP Vt VF=>S_ VP Vt VF (λr0 r1=>c_ (.tup [vwi r0,vwi r1]) [])) N_ (jj N_)
def Rv (N_:Nat):LT:=ao (Ru N_) 6 ⟨[.agg [.rof,.int .i64,.int .i64,.rof],.agg [.int .i64,.int .i64,.slw 0],.slw 1,.slw 2],[some (41,1,.flts),some (41,1,.flts),some (41,1,.flts)]⟩ [.fs,.i,.i,.fs,.i,.i,.fs,.fs,.fs] (λS_ c_ Xv Wn Xi Xj WH WC b Vo Vq=>S_ Xv Wn Xi Xj WH WC b Vo Vq (λr0 r1 r2 r3 r4 r5 r6=>c_ (.tup [.agg [.rof r0,vwi r1,vwi r2,.rof r3],.rl RT4 r4,vwi r5,vwi r6]) [⟨41,1,.flts b⟩,⟨41,1,.flts Vo⟩,⟨41,1,.flts Vq⟩])) N_ (JT N_)
def Rw (N_:Nat):LT:=upM Pg iI N_ fmd (Rv N_) [32]
def Rx (N_:Nat):LT:=ad (Rw N_) 18 ⟨[.agg [.rof,.int .i64,.int .i64,.rof]],[]⟩ [.fs,.i,.i,.fs] (λS_ c_ Wd VK VS VV=>S_ Wd VK VS VV (λr0=>c_ (vwi r0) [])) N_ (mo N_)
def Ry (N_:Nat):LT:=ad (Rx N_) 56 ⟨[.agg [.rof,.int .i64,.int .i64,.rof],.rof,.flt],[]⟩ [.fs,.i,.i,.fs,.fs,.f] (λS_ c_ Wd VK VS VV h r=>S_ Wd VK VS VV h r (λr0=>c_ (.tup [.val (.pointer none),vwi r0]) []) (λr0 r1 r8 r9 r10=>c_ (.tup [.ptr 0 0,vwi r0]) [⟨103,1,.cells [.bool r1,.rof Wd,vwi VK,vwi VS,.rof VV,.rof h,.flt r,.flt r8,.slw 1,.nil,.flt r9]⟩,⟨41,1,.flts r10⟩])) N_ (kz N_)
def Rz (N_:Nat):LT:=ad (Ry N_) 59 ⟨[.ptr 0 0,.slw 1,.agg [.int .i64,.int .i64,.slw 2]],[some (103,1,.cells [.bool,.rof,.int .i64,.int .i64,.rof,.rof,.flt,.flt,.slw 3,.slw 4,.flt]),some (41,1,.flts),some (41,1,.flts),some (41,1,.flts),some (41,1,.flts)]⟩ [.i,.i,.b,.fs,.i,.i,.fs,.fs,.f,.f,.f,.fs,.fs,.fs,.fs] (λS_ c_ Zh XA b Vo Vq Vu Vx VC VJ VN VT VZ VB V3 Wh=>S_ Zh XA b Vo Vq Vu Vx VC VJ VN VT VZ VB V3 Wh (λr0 r1 r2=>c_ (.tup [.agg [.nil,vwi r0,vwi r1,.nil],vwi r2]) [⟨103,1,.cells [.bool b,.rof Vo,vwi Vq,vwi Vu,.rof Vx,.rof VC,.flt VJ,.flt VN,.slw 3,.slw 4,.flt VT]⟩,⟨41,1,.flts VZ⟩,⟨41,1,.flts VB⟩,⟨41,1,.flts V3⟩,⟨41,1,.flts Wh⟩]) (λr2=>c_ (.tup [.agg [.slw 1,vwi Zh,vwi XA,.slw 2],vwi r2]) [⟨103,1,.cells [.bool b,.rof Vo,vwi Vq,vwi Vu,.rof Vx,.rof VC,.flt VJ,.flt VN,.slw 3,.slw 4,.flt VT]⟩,⟨41,1,.flts VZ⟩,⟨41,1,.flts VB⟩,⟨41,1,.flts V3⟩,⟨41,1,.flts Wh⟩])) N_ (cO N_)
def RA (N_:Nat):LT:=ad (Rz N_) 34 ⟨[.agg [.rof,.int .i64,.int .i64,.rof],.rof,.flt,.flt,.fn 35 []],[]⟩ [.fs,.i,.i,.fs,.fs,.f,.f] (λS_ c_ Wd VK VS VV h r z=>S_ Wd VK VS VV h r z (λr0 r1 r2 r3 r4 r5=>c_ (.tup [.agg [.nil,vwi r0,vwi r1,.nil],.agg [.flt r2,.flt r3,.flt r4,.nil],vwi r5]) []) (λr0 r1 r2 r3 r4 r5 r6=>c_ (.tup [.agg [.nil,vwi r0,vwi r1,.nil],.agg [.flt r2,.flt r3,.flt r4,.slw 0],vwi r5]) [⟨41,1,.flts r6⟩]) (λr0 r1 r2 r3 r4 r5 r6 r7 r8=>c_ (.tup [.agg [.slw 0,vwi r0,vwi r1,.slw 1],.agg [.flt r2,.flt r3,.flt r4,.slw 2],vwi r5]) [⟨41,1,.flts r6⟩,⟨41,1,.flts r7⟩,⟨41,1,.flts r8⟩])) N_ (jH N_)
def RB (N_:Nat):LT:=ad (RA N_) 21 ⟨[.agg [.rof,.int .i64,.int .i64,.rof],.sl 0,.flt,.flt],[some (41,1,.flts)]⟩ [.fs,.i,.i,.fs,.n,.n,.f,.f,.fs] (λS_ c_ Wd VK VS VV WH WC r z b=>S_ Wd VK VS VV WH WC r z b (λr0 r1 r2 r3 r4 r5 r6 r7 r8=>c_ (.tup [.agg [.rof r0,vwi r1,vwi r2,.rof r3],.agg [.flt r4,.flt r5,.flt r6,.rof r7],vwi r8]) [⟨41,1,.flts b⟩])) N_ (jF N_)
def RC (N_:Nat):LT:=ad (RB N_) 7 ⟨[.agg [.slw 0,.int .i64,.int .i64,.slw 1],.agg [.int .i64,.int .i64,.slw 2],.slw 3,.sl 4],[some (41,1,.flts),some (41,1,.flts),some (41,1,.flts),some (41,1,.flts),some (41,1,.flts)]⟩ [.i,.i,.i,.i,.n,.n,.fs,.fs,.fs,.fs,.fs] (λS_ c_ Wd VK WH WC ZP VY b Vo Vq Vu Vx=>S_ Wd VK WH WC ZP VY b Vo Vq Vu Vx (λr0 r1 r2 r3 r4 r5 r6=>c_ (.tup [.agg [.rof r0,vwi r1,vwi r2,.rof r3],.rl RT4 r4,vwi r5,vwi r6]) [⟨41,1,.flts b⟩,⟨41,1,.flts Vo⟩,⟨41,1,.flts Vq⟩,⟨41,1,.flts Vu⟩,⟨41,1,.flts Vx⟩])) N_ (eX N_)
def RD (N_:Nat):LT:=ao (RC N_) 21 ⟨[.agg [.slw 0,.int .i64,.int .i64,.slw 1],.slw 2,.flt,.flt],[some (41,1,.flts),some (41,1,.flts),some (41,1,.flts)]⟩ [.i,.i,.f,.f,.fs,.fs,.fs] (λS_ c_ Wd VK r z b Vo Vq=>S_ Wd VK r z b Vo Vq (λr0 r1 r2 r3 r4 r5 r6 r7 r8=>c_ (.tup [.agg [.rof r0,vwi r1,vwi r2,.rof r3],.agg [.flt r4,.flt r5,.flt r6,.rof r7],vwi r8]) [⟨41,1,.flts b⟩,⟨41,1,.flts Vo⟩,⟨41,1,.flts Vq⟩])) N_ (ku N_)
def RE (N_:Nat):LT:=ad (RD N_) 11 ⟨[],[]⟩ [] (λS_ c_=>S_ (λr0=>c_ (.bool r0) [])) N_ (S4 N_)
def Kr (N_:Nat):LT:=ao (RE N_) 7 ⟨[.agg [.slw 0,.int .i64,.int .i64,.slw 1],.agg [.int .i64,.int .i64,.slw 2],.slw 3,.slw 4],[some (41,1,.flts),some (41,1,.flts),some (41,1,.flts),some (41,1,.flts),some (41,1,.flts)]⟩ [.i,.i,.i,.i,.fs,.fs,.fs,.fs,.fs] (λS_ c_ Wd VK WH WC b Vo Vq Vu Vx=>S_ Wd VK WH WC b Vo Vq Vu Vx (λr0 r1 r2 r3 r4 r5 r6=>c_ (.tup [.agg [.rof r0,vwi r1,vwi r2,.rof r3],.rl RT4 r4,vwi r5,vwi r6]) [⟨41,1,.flts b⟩,⟨41,1,.flts Vo⟩,⟨41,1,.flts Vq⟩,⟨41,1,.flts Vu⟩,⟨41,1,.flts Vx⟩])) N_ (eZ N_)
def MG:FnSh:=⟨[.roi .u64,.int .i64,.roi .u64,.rl RT3,.int .i64],[]⟩
end
theorem Nr (w:World) (v:Value):Calls Tryz.prog 80 #[.nilIface,v] w λe w'=>e=.returned v/\w'=w:=
 Ns (P:=Tryz.prog) (fc:=80) (fn:=Tryz.f80) (by kernel_rfl) (by kernel_rfl) (by kernel_rfl) rfl rfl rfl rfl rfl rfl rfl rfl rfl rfl rfl rfl rfl rfl rfl rfl rfl rfl rfl (λ_=>rfl) (λ_=>by kernel_rfl) w v
theorem TO:Al Tryz.prog 79:=
 KS (P:=Tryz.prog) (g:=79) (fc:=80) (fg:=Tryz.f79) (ff:=Tryz.f80) (by kernel_rfl) (by kernel_rfl) (by kernel_rfl) (by kernel_rfl) rfl (by kernel_rfl) (by kernel_rfl) (by kernel_rfl) (by kernel_rfl) (by kernel_rfl) rfl rfl rfl rfl rfl rfl rfl rfl rfl rfl rfl (by kernel_rfl) (by kernel_rfl) Nr
theorem hD_:HD Tryz.prog iI:=by
 intro g hg h;have e:g=79:=by have h:=DK h; simp at h; omega
 rcases e with rfl
 exact TO
end Go.Proofs.YtpmoedfiobeilaaGreatDoor
end
