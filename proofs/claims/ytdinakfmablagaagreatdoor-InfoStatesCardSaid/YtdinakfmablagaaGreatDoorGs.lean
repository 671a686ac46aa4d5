/- The program's functions and their ties. Conditions: none. -/
import Derived.Test.YtdinakfmablagaaGreatDoorGp
import Derived.Test.YtdinakfmablagaaGreatDoorMachT
import Derived.Test.YtdinakfmablagaaGreatDoorProg
set_option linter.unusedVariables false
section
namespace Go.Proofs.YtdinakfmablagaaGreatDoor
open Go Go.Mach Go.Proofs
set_option maxRecDepth 50000
abbrev KV:=V->List Blk->Bool
abbrev SPT:=List Atom->KV->Bool
noncomputable abbrev Pg:Program:=Tryz.prog
def vqs:Nat → List V → List V
  | 0,t=>t
  | n+1,t=>.any::vqs n t
abbrev vwi (z:Int):V:=.int .i64 z
abbrev vwu (z:Int):V:=.int .u64 z
abbrev vwv (z:Int):V:=.int .u32 z
abbrev vwr (l:LI):V:=.roi .u64 l
abbrev vws (l:LI):V:=.roi .u32 l
theorem W1 {p:Nat → Prop} (h:p 0):∀ i,i<1 → p i
 | 0,_=>h
 | _+1,g=>by omega
theorem Wg {p:Nat → Prop} (h:p 0) (h1:p 1):∀ i,i<2 → p i
 | 0,_=>h
 | 1,_=>h1
 | _+2,g=>by omega
def sqs:Nat → List Sh → List Sh
 | 0,t=>t
 | n+1,t=>.any::sqs n t
noncomputable def km:Nat->Bool:=OR [134,206,171,78,140,83,84,79,105,89,132,133,144,141,139,80,194,28,26,41,32,30,102,150,94,100,103,106,165,164,104,36,39,42,33,40,152,88,151,199,34,35,98,99,50,32,30,10,20,12,21,16,15,92,91,57,54,286,259,305,316,17,109,97,96,160,157,156,90,204,228,201,203,226,227,242,216,269,245,217,183,265,312,306,254,283,284,1000318,1000209,1000207,2000180,3000090,3000048,3000047,4000230,4000187,4000061,6000185,6000188,12000184]
abbrev LT:=List (Nat × Fs)
abbrev TbS (A B:Nat->LT):Prop:=∀ N,OKL Pg km (A N)->OKL Pg km (B N)
noncomputable def fmd:Nat->Nat:=λg=>(cond (OR [8,31,120,139,171,202,237,238,239,240,241,251,252,259,260,261,268,274,275,296,302,312] g) 1 (cond (OR [243,246,247,270,271] g) 2 0))
noncomputable section
def L0 (N_:Nat):LT:=[]
def V1:FnSh:=⟨[.fb],[]⟩
def Sv (aed:Nh):SPT:=λa_ c_=>match a_ with
 | [.nat a0]=>aed a0 (λr0=>c_ (vwu r0) [])
 | _=>false
abbrev Wh (aed:Nh):Fs:=fJ V1 (Sv aed)
def L1 (N_:Nat):LT:=(19,(Wh (Ef N_)))::L0 N_
def RB:FnSh:=⟨[.int .u64],[]⟩
def PB (ac8:G7):SPT:=λa_ c_=>match a_ with
 | [.int a0]=>ac8 a0 (λr0=>c_ (.flt r0) [])
 | _=>false
abbrev Mh (ac8:G7):Fs:=fJ RB (PB ac8)
def L2 (N_:Nat):LT:=(44,(Mh (Bw N_)))::L1 N_
def L3 (N_:Nat):LT:=ad (L2 N_) 9 ⟨[.roi .u64],[]⟩ [.is] (λS_ c_ l=>S_ l (λr0=>c_ (.rof r0) [])) N_ (MX N_)
def JU:FnSh:=⟨[.flt],[]⟩
def PA (ac7:G6):SPT:=λa_ c_=>match a_ with
 | [.fl a0]=>ac7 a0 (λr0=>c_ (vwu r0) [])
 | _=>false
abbrev Mg (ac7:G6):Fs:=fJ JU (PA ac7)
def L4 (N_:Nat):LT:=(19,(D_ (Mg (wU N_)) (ofL (L3 N_) 19) JU))::L3 N_
def L5 (N_:Nat):LT:=ad (L4 N_) 285 ⟨[.int .u64],[]⟩ [.i] (λS_ c_ x=>S_ x (λr0=>c_ (vwi r0) [])) N_ (GQ9 N_)
def L6 (N_:Nat):LT:=ad (L5 N_) 286 ⟨[.slw 0],[some (23,1,.ints .u64)]⟩ [.is] (λS_ c_ b=>S_ b (λr0=>c_ (.sl 0 0 r0) [⟨23,1,.ints .u64 b⟩])) N_ (SV N_)
def L7 (N_:Nat):LT:=ad (L6 N_) 262 ⟨[.roi .u64,.int .u64],[]⟩ [.is,.i] (λS_ c_ x n=>S_ x n (λr0=>c_ (vwr r0) [])) N_ (uV N_)
def L8 (N_:Nat):LT:=ad (L7 N_) 288 ⟨[.roi .u64,.roi .u64],[]⟩ [.is,.is] (λS_ c_ x y=>S_ x y (λr0=>c_ (vwi r0) [])) N_ (Mt N_)
def L9 (N_:Nat):LT:=ad (L8 N_) 311 ⟨[.int .u64],[]⟩ [.i] (λS_ c_ x=>S_ x (λr0=>c_ (vwi r0) [])) N_ (S8 N_)
def L10 (N_:Nat):LT:=ad (L9 N_) 298 ⟨[.roi .u64],[]⟩ [.is] (λS_ c_ x=>S_ x (λr0=>c_ (vwi r0) [])) N_ (p6 N_)
def L11 (N_:Nat):LT:=ad (L10 N_) 299 ⟨[.int .u64,.int .u64],[]⟩ [.i,.i] (λS_ c_ x y=>S_ x y (λr0 r1 r2 r3 r4=>c_ (.agg [vwu r0,vwu r1,vwu r2,vwu r3,.bool r4]) [])) N_ (yf N_)
def L12 (N_:Nat):LT:=ad (L11 N_) 307 ⟨[.int .u64,.int .u64],[]⟩ [.i,.i] (λS_ c_ x y=>S_ x y (λr0 r1=>c_ (.tup [vwu r0,vwu r1]) [])) N_ (Mn N_)
def Xc:FnSh:=⟨[.int .u64,.int .u64,.int .u64],[]⟩
def Xg (SQ2:U9):SPT:=λa_ c_=>match a_ with
 | [.int a0,.int a1,.int a2]=>SQ2 a0 a1 a2 (λr0 r1=>c_ (.tup [vwu r0,vwu r1]) [])
 | _=>false
abbrev FQ2 (SQ2:U9):Fs:=fJ Xc (Xg SQ2)
def L13 (N_:Nat):LT:=(308,(FQ2 (sQ2 N_)))::L12 N_
def L14 (N_:Nat):LT:=ad (L13 N_) 290 ⟨[.int .u64,.int .u64,.int .u64,.int .u64],[]⟩ [.i,.i,.i,.i] (λS_ c_ a b c d=>S_ a b c d (λr0 r1=>c_ (.tup [vwu r0,vwu r1]) [])) N_ (uU N_)
def L15 (N_:Nat):LT:=ad (L14 N_) 314 ⟨[.roi .u64,.int .u64,.int .u64],[]⟩ [.is,.i,.i] (λS_ c_ x d more=>S_ x d more (λr0=>c_ (vwr r0) [])) N_ (ME N_)
def Xd:FnSh:=⟨[.int .u64,.int .u64,.int .u64],[]⟩
def Xh (SQ4:U_):SPT:=λa_ c_=>match a_ with
 | [.int a0,.int a1,.int a2]=>SQ4 a0 a1 a2 (λr0 r1=>c_ (.tup [vwu r0,vwu r1]) [])
 | _=>false
abbrev FQ4 (SQ4:U_):Fs:=fJ Xd (Xh SQ4)
def L16 (N_:Nat):LT:=(317,(FQ4 (sQ4 N_)))::L15 N_
def L17 (N_:Nat):LT:=ao (L16 N_) 286 ⟨[.sl 0],[some (23,1,.ints .u64)]⟩ [.n,.n,.is] (λS_ c_ ZY Zw b=>S_ ZY Zw b (λr1=>c_ (.sl 0 ZY r1) [⟨23,1,.ints .u64 b⟩])) N_ (p7 N_)
def L18 (N_:Nat):LT:=ad (L17 N_) 266 ⟨[.roi .u64,.roi .u64],[]⟩ [.is,.is] (λS_ c_ x y=>S_ x y (λr0=>c_ (vwr r0) [])) N_ (Tj N_)
def L19 (N_:Nat):LT:=ad (L18 N_) 242 ⟨[.agg [.int .i64,.int .i64,.slw 0],.int .i64,.int .i64],[some (249,1,.recs RT0)]⟩ [.i,.i,.i,.i,.r RT0] (λS_ c_ g_0 g_1 i j b=>S_ g_0 g_1 i j b (λr0 r1 r2 r3=>c_ (.agg [.rp [.bool r0,vwr r1,.bool r2,vwr r3] 0]) [⟨249,1,.recs RT0 b⟩])) N_ (eW N_)
def L20 (N_:Nat):LT:=ad (L19 N_) 293 ⟨[.rp [.bool,.roi .u64,.bool,.roi .u64] 0],[]⟩ [.b,.is,.b,.is] (λS_ c_ ZY Zw ZN ZT=>S_ ZY Zw ZN ZT (λr0=>c_ (vwi r0) [])) N_ (M4 N_)
def RC:FnSh:=⟨[.flt],[]⟩
def PC (ac9:G8):SPT:=λa_ c_=>match a_ with
 | [.fl a0]=>ac9 a0 (λr0=>c_ (.flt r0) [])
 | _=>false
abbrev RF (ac9:G8):Fs:=fJ RC (PC ac9)
def L21 (N_:Nat):LT:=(110,(RF (Gv N_)))::L20 N_
def L22 (N_:Nat):LT:=ad (L21 N_) 221 ⟨[.roi .i64],[]⟩ [.is] (λS_ c_ l=>S_ l (λr0=>c_ (vwi r0) [])) N_ (Mo N_)
def L23 (N_:Nat):LT:=ad (L22 N_) 91 ⟨[.agg [.int .i64,.int .i64,.rof],.int .i64],[]⟩ [.i,.i,.fs,.i] (λS_ c_ ZB Zn Zv i=>S_ ZB Zn Zv i (λr0=>c_ (.rof r0) [])) N_ (uY N_)
def LQ:FnSh:=⟨[.flt],[]⟩
def BG (abL:z9):SPT:=λa_ c_=>match a_ with
 | [.fl x]=>abL x (λr0=>c_ (.flt r0) [])
 | _=>false
abbrev II (abL:z9):Fs:=fJ LQ (BG abL)
def L24 (N_:Nat):LT:=(167,(II (wZ N_)))::L23 N_
def Px:FnSh:=⟨[.fb],[]⟩
def PE (aef:RX):SPT:=λa_ c_=>match a_ with
 | [.nat x]=>aef x (λr0=>c_ (.flt r0) [])
 | _=>false
abbrev SB (aef:RX):Fs:=fJ Px (PE aef)
def L25 (N_:Nat):LT:=ad (L24 N_) 107 ⟨[.flt,.int .i64],[]⟩ [.f,.i] (λS_ c_ f sign=>S_ f sign (λr0=>c_ (.bool r0) [])) N_ (tP N_)
def L26 (N_:Nat):LT:=ad1 1 (L25 N_) 47 ⟨[.ptr 0 0,.flt],[some (107,1,.cells [.bool])]⟩ [.f,.b] (λS_ c_ x b=>S_ x b (λr1=>c_ (.flt x) (.bool r1))) N_ (MW N_)
def L27 (N_:Nat):LT:=ad1 1 (L26 N_) 48 ⟨[.ptr 0 0,.flt,.flt],[some (107,1,.cells [.bool])]⟩ [.f,.f,.b] (λS_ c_ a b Zl=>S_ a b Zl (λr0 r1=>c_ (.flt r0) (.bool r1))) N_ (rV N_)
def L28 (N_:Nat):LT:=ad1 1 (L27 N_) 90 ⟨[.ptr 0 0,.rof,.rof],[some (107,1,.cells [.bool])]⟩ [.fs,.fs,.b] (λS_ c_ a b Zl=>S_ a b Zl (λr0 r1=>c_ (.flt r0) (.bool r1))) N_ (IM N_)
def L29 (N_:Nat):LT:=ad1 2 (L28 N_) 61 ⟨[.ptr 0 0],[some (107,1,.cells [.bool])]⟩ [.b] (λS_ c_ b=>S_ b (c_ (.bool b) (.any))) N_ (IQ N_)
def L30 (N_:Nat):LT:=ad (L29 N_) 191 ⟨[.int .i64,.int .i64,.int .i64],[]⟩ [.i,.i,.i] (λS_ c_ rows cols n=>S_ rows cols n (λr0=>c_ (vwi r0) [])) N_ (sc N_)
def L31 (N_:Nat):LT:=ad (L30 N_) 169 ⟨[.int .i64,.int .u64,.int .i64],[]⟩ [.i,.i,.i] (λS_ c_ exp frac most=>S_ exp frac most (λr0=>c_ (vwi r0) [])) N_ (M6 N_)
def L32 (N_:Nat):LT:=ad (L31 N_) 170 ⟨[.int .u64,.int .i64],[]⟩ [.i,.i] (λS_ c_ m e=>S_ m e (λr0 r1=>c_ (.tup [vwu r0,vwi r1]) [])) N_ (tR N_)
def L33 (N_:Nat):LT:=ad (L32 N_) 206 ⟨[.slw 0],[some (238,1,.ints .u32)]⟩ [.is] (λS_ c_ b=>S_ b (λr0=>c_ (.sl 0 0 r0) [⟨238,1,.ints .u32 b⟩])) N_ (SN N_)
def L34 (N_:Nat):LT:=ad (L33 N_) 172 ⟨[.int .u64],[]⟩ [.i] (λS_ c_ n=>S_ n (λr0=>c_ (vws r0) [])) N_ (MT N_)
def L35 (N_:Nat):LT:=ao (L34 N_) 206 ⟨[.roi .u32],[]⟩ [.is] (λS_ c_ m=>S_ m (λr0=>c_ (vws r0) [])) N_ (xj N_)
def L36 (N_:Nat):LT:=ad (L35 N_) 210 ⟨[.roi .u32,.int .u64],[]⟩ [.is,.i] (λS_ c_ m n=>S_ m n (λr0=>c_ (vws r0) [])) N_ (u7 N_)
def L37 (N_:Nat):LT:=ad (L36 N_) 276 ⟨[.int .u32],[]⟩ [.i] (λS_ c_ x=>S_ x (λr0=>c_ (vwi r0) [])) N_ (GQ8 N_)
def L38 (N_:Nat):LT:=ad (L37 N_) 253 ⟨[.ptr 0 0],[some (158,1,.cells [.bool,.roi .u32])]⟩ [.b,.is] (λS_ c_ b Zl=>S_ b Zl (λr0=>c_ (vwu r0) [⟨158,1,.cells [.bool b,vws Zl]⟩])) N_ (GQ1 N_)
def L39 (N_:Nat):LT:=ad (L38 N_) 254 ⟨[.roi .u32,.int .u64],[]⟩ [.is,.i] (λS_ c_ m n=>S_ m n (λr0=>c_ (vws r0) [])) N_ (S9 N_)
def L40 (N_:Nat):LT:=ad (L39 N_) 277 ⟨[.int .u32],[]⟩ [.i] (λS_ c_ x=>S_ x (λr0=>c_ (vwi r0) [])) N_ (Mx N_)
def L41 (N_:Nat):LT:=ad (L40 N_) 255 ⟨[.ptr 0 0],[some (158,1,.cells [.bool,.roi .u32])]⟩ [.b,.is] (λS_ c_ b Zl=>S_ b Zl (λr0=>c_ (vwi r0) [⟨158,1,.cells [.bool b,vws Zl]⟩])) N_ (S7 N_)
def L42 (N_:Nat):LT:=ad (L41 N_) 208 ⟨[.roi .u32,.roi .u32],[]⟩ [.is,.is] (λS_ c_ a b=>S_ a b (λr0=>c_ (vwi r0) [])) N_ (Th N_)
def L43 (N_:Nat):LT:=ad (L42 N_) 279 ⟨[.roi .u32,.int .i64],[]⟩ [.is,.i] (λS_ c_ m at_=>S_ m at_ (λr0=>c_ (vwu r0) [])) N_ (uZ N_)
def L44 (N_:Nat):LT:=ad (L43 N_) 278 ⟨[.int .u64,.int .u64],[]⟩ [.i,.i] (λS_ c_ x y=>S_ x y (λr0 r1 r2 r3=>c_ (.tup [vwi r0,vwi r1,vwi r2,vwi r3]) [])) N_ (rZ N_)
def L45 (N_:Nat):LT:=ad (L44 N_) 281 ⟨[.roi .u32,.int .u32],[]⟩ [.is,.i] (λS_ c_ m d=>S_ m d (λr0 r1=>c_ (.tup [vws r0,vwv r1]) [])) N_ (rY N_)
def L46 (N_:Nat):LT:=ad (L45 N_) 283 ⟨[.sl 0,.sl 1,.int .i64,.int .u64],[some (238,1,.ints .u32),some (238,1,.ints .u32)]⟩ [.n,.n,.n,.n,.i,.i,.is,.is] (λS_ c_ Z7 Z5 d_0 Z0 j g b Zl=>S_ Z7 Z5 d_0 Z0 j g b Zl (λr0 r1=>c_ (.bool r0) [⟨238,1,.ints .u32 r1⟩,⟨238,1,.ints .u32 Zl⟩])) N_ (MH N_)
def L47 (N_:Nat):LT:=ad (L46 N_) 284 ⟨[.sl 0,.sl 1,.int .i64],[some (238,1,.ints .u32),some (238,1,.ints .u32)]⟩ [.n,.n,.n,.n,.i,.is,.is] (λS_ c_ Z7 Z5 d_0 Z0 j b Zl=>S_ Z7 Z5 d_0 Z0 j b Zl (λr0=>c_ (.tup []) [⟨238,1,.ints .u32 r0⟩,⟨238,1,.ints .u32 Zl⟩])) N_ (MI N_)
def L48 (N_:Nat):LT:=ao (L47 N_) 206 ⟨[.sl 0],[some (238,1,.ints .u32)]⟩ [.n,.n,.is] (λS_ c_ ZB Zn b=>S_ ZB Zn b (λr1=>c_ (.sl 0 ZB r1) [⟨238,1,.ints .u32 b⟩])) N_ (rW N_)
def L49 (N_:Nat):LT:=ao (L48 N_) 254 ⟨[.sl 0,.int .u64],[some (238,1,.ints .u32)]⟩ [.n,.n,.i,.is] (λS_ c_ ZB Zn n b=>S_ ZB Zn n b (λr0=>c_ (vws r0) [⟨238,1,.ints .u32 b⟩])) N_ (M0 N_)
def L50 (N_:Nat):LT:=ad (L49 N_) 175 ⟨[.roi .u32,.roi .u32],[]⟩ [.is,.is] (λS_ c_ a b=>S_ a b (λr0=>c_ (vws r0) [])) N_ (Tk N_)
def L51 (N_:Nat):LT:=ad (L50 N_) 209 ⟨[.roi .u32,.roi .u32],[]⟩ [.is,.is] (λS_ c_ a b=>S_ a b (λr0=>c_ (vws r0) [])) N_ (rX N_)
def L52 (N_:Nat):LT:=ad (L51 N_) 297 ⟨[.roi .u32,.int .u64,.roi .u32,.int .u64],[]⟩ [.is,.i,.is,.i] (λS_ c_ a u b v=>S_ a u b v (λr0=>c_ (vws r0) [])) N_ (M5 N_)
def L53 (N_:Nat):LT:=ad (L52 N_) 280 ⟨[.roi .u32,.int .i64,.roi .u32,.int .i64],[]⟩ [.is,.i,.is,.i] (λS_ c_ a u b v=>S_ a u b v (λr0=>c_ (vws r0) [])) N_ (tQ N_)
def L54 (N_:Nat):LT:=ad (L53 N_) 225 ⟨[.int .i64,.int .i64],[]⟩ [.i,.i] (λS_ c_ rows cols=>S_ rows cols (λr2=>c_ (.agg [vwi rows,vwi cols,.slw 0]) [⟨231,1,.own 235 RT1 r2 []⟩])) N_ (qh N_)
def L55 (N_:Nat):LT:=ad (L54 N_) 115 ⟨[.rp [.bool,.roi .u32,.bool,.roi .u32] 0],[]⟩ [.b,.is,.b,.is] (λS_ c_ z_0 z_1 z_2 z_3=>S_ z_0 z_1 z_2 z_3 (λr0=>c_ (vwi r0) [])) N_ (xk N_)
def L56 (N_:Nat):LT:=ad (L55 N_) 207 ⟨[.roi .u32,.roi .u32],[]⟩ [.is,.is] (λS_ c_ a b=>S_ a b (λr0=>c_ (vws r0) [])) N_ (u9 N_)
def L57 (N_:Nat):LT:=ad (L56 N_) 97 ⟨[.agg [.int .i64,.int .i64,.rof],.int .i64],[]⟩ [.i,.i,.fs,.i] (λS_ c_ ZB Zn Zv i=>S_ ZB Zn Zv i (λr0=>c_ (.rof r0) [])) N_ (tS N_)
def L58 (N_:Nat):LT:=ad (L57 N_) 43 ⟨[.rof,.rof],[]⟩ [.fs,.fs] (λS_ c_ a b=>S_ a b (λr0=>c_ (.bool r0) [])) N_ (SU N_)
def L59 (N_:Nat):LT:=ad (L58 N_) 58 ⟨[.agg [.int .i64,.int .i64,.rof],.agg [.int .i64,.int .i64,.rof]],[]⟩ [.i,.i,.fs,.i,.i,.fs] (λS_ c_ ZD Zu ZH b_0 Zl Zq=>S_ ZD Zu ZH b_0 Zl Zq (λr0=>c_ (.bool r0) [])) N_ (Tq N_)
def L60 (N_:Nat):LT:=ad (L59 N_) 156 ⟨[.agg [.int .i64,.int .i64,.rof],.int .i64],[]⟩ [.i,.i,.fs,.i] (λS_ c_ ZB Zn Zv i=>S_ ZB Zn Zv i (λr0=>c_ (.rof r0) [])) N_ (qe N_)
def L61 (N_:Nat):LT:=ad (L60 N_) 205 ⟨[.agg [.int .i64,.int .i64,.rof],.int .i64],[]⟩ [.i,.i,.fs,.i] (λS_ c_ ZB Zn Zv j=>S_ ZB Zn Zv j (λr0=>c_ (.slw 0) [⟨36,1,.flts r0⟩])) N_ (qb N_)
def L62 (N_:Nat):LT:=ao1 1 (L61 N_) 90 ⟨[.ptr 0 0,.rof,.slw 1],[some (107,1,.cells [.bool]),some (36,1,.flts)]⟩ [.fs,.b,.fs] (λS_ c_ a b Zl=>S_ a b Zl (λr0 r1=>c_ (.flt r0) (.bool r1))) N_ (MZ N_)
def L63 (N_:Nat):LT:=ad (L62 N_) 157 ⟨[.ptr 0 0,.agg [.int .i64,.int .i64,.rof],.agg [.int .i64,.int .i64,.rof]],[some (107,1,.cells [.bool])]⟩ [.i,.i,.fs,.i,.i,.fs,.b] (λS_ c_ ZD Zu ZH b_0 Zl Zq b=>S_ ZD Zu ZH b_0 Zl Zq b (λr2 r3=>c_ (.agg [vwi ZD,vwi Zl,.slw 1]) [⟨107,1,.cells [.bool r2]⟩,⟨36,1,.flts r3⟩])) N_ (jq N_)
def L64 (N_:Nat):LT:=ao (L63 N_) 156 ⟨[.agg [.int .i64,.int .i64,.slw 0],.int .i64],[some (36,1,.flts)]⟩ [.i,.i,.i,.fs] (λS_ c_ ZB Zn i b=>S_ ZB Zn i b (λr0 r1=>c_ (.sl 0 r0 r1) [⟨36,1,.flts b⟩])) N_ (nN N_)
def L65 (N_:Nat):LT:=ao1 1 (L64 N_) 90 ⟨[.ptr 0 0,.sl 1,.rof],[some (107,1,.cells [.bool]),some (36,1,.flts)]⟩ [.n,.n,.fs,.b,.fs] (λS_ c_ ZD Zu b Zl Zq=>S_ ZD Zu b Zl Zq (λr0 r1=>c_ (.flt r0) (.bool r1))) N_ (MY N_)
def L66 (N_:Nat):LT:=ad (L65 N_) 159 ⟨[.int .i64,.int .i64,.ptr 0 0,.ptr 1 0,.ptr 2 0,.ptr 3 0,.ptr 4 0],[some (92,1,.cells [.ptr 5 0]),some (28,1,.cells [.int .i64,.int .i64,.slw 6]),some (28,1,.cells [.int .i64,.int .i64,.rof]),some (28,1,.cells [.int .i64,.int .i64,.rof]),some (3,1,.cells [.int .i64]),some (107,1,.cells [.bool]),some (36,1,.flts)]⟩ [.i,.i,.i,.i,.i,.i,.fs,.i,.i,.fs,.i,.b,.fs] (λS_ c_ i j b Zl Zq Zy ZK Z2 b_6 b_7 b_8 b_9 aaU=>S_ i j b Zl Zq Zy ZK Z2 b_6 b_7 b_8 b_9 aaU (λr0 r10=>c_ (.flt r0) [⟨92,1,.cells [.ptr 5 0]⟩,⟨28,1,.cells [vwi b,vwi Zl,.slw 6]⟩,⟨28,1,.cells [vwi Zq,vwi Zy,.rof ZK]⟩,⟨28,1,.cells [vwi Z2,vwi b_6,.rof b_7]⟩,⟨3,1,.cells [vwi b_8]⟩,⟨107,1,.cells [.bool r10]⟩,⟨36,1,.flts aaU⟩])) N_ (bQ N_)
def L67 (N_:Nat):LT:=ad (L66 N_) 158 ⟨[.int .i64,.fn 159 [.ptr 0 0,.ptr 1 0,.ptr 2 0,.ptr 3 0,.ptr 4 0]],[some (92,1,.cells [.ptr 5 0]),some (28,1,.cells [.int .i64,.int .i64,.slw 6]),some (28,1,.cells [.int .i64,.int .i64,.rof]),some (28,1,.cells [.int .i64,.int .i64,.rof]),some (3,1,.cells [.int .i64]),some (107,1,.cells [.bool]),some (36,1,.flts)]⟩ [.i,.i,.i,.i,.i,.fs,.i,.i,.fs,.i,.b,.fs] (λS_ c_ n b Zl Zq Zy ZK Z2 b_6 b_7 b_8 b_9 aaU=>S_ n b Zl Zq Zy ZK Z2 b_6 b_7 b_8 b_9 aaU (λr11 r13=>c_ (.agg [vwi n,vwi n,.slw 7]) [⟨92,1,.cells [.ptr 5 0]⟩,⟨28,1,.cells [vwi b,vwi Zl,.slw 6]⟩,⟨28,1,.cells [vwi Zq,vwi Zy,.rof ZK]⟩,⟨28,1,.cells [vwi Z2,vwi b_6,.rof b_7]⟩,⟨3,1,.cells [vwi b_8]⟩,⟨107,1,.cells [.bool r11]⟩,⟨36,1,.flts aaU⟩,⟨36,1,.flts r13⟩])) N_ (dK N_)
def L68 (N_:Nat):LT:=ao (L67 N_) 97 ⟨[.agg [.int .i64,.int .i64,.slw 0],.int .i64],[some (36,1,.flts)]⟩ [.i,.i,.i,.fs] (λS_ c_ ZB Zn i b=>S_ ZB Zn i b (λr0 r1=>c_ (.sl 0 r0 r1) [⟨36,1,.flts b⟩])) N_ (se N_)
def Sr:FnSh:=⟨[],[]⟩
def V5 (SQ0:U8):SPT:=λa_ c_=>match a_ with
 | []=>SQ0 (λr0=>c_ (.bool r0) [])
 | _=>false
abbrev FQ0 (SQ0:U8):Fs:=fJ Sr (V5 SQ0)
def L69 (N_:Nat):LT:=(22,(FQ0 (sQ0 N_)))::L68 N_
def L70 (N_:Nat):LT:=upM Pg km N_ fmd (L69 N_) [8,13,54,53,202,201,282,252,171,56,192,197,224,222,131,59,128,129,130,220,269,244,268,296,241,302,304,312,237,261,259,260,214,124,121,31,232,233,231,178]
def L71 (N_:Nat):LT:=ad (L70 N_) 212 ⟨[.int .u64,.agg [.int .u64,.int .i64,.int .i64]],[]⟩ [.i,.i,.i,.i] (λS_ c_ b ZW ZZ Z1=>S_ b ZW ZZ Z1 (λr0=>c_ (.bool r0) [])) N_ (Ms N_)
def L72 (N_:Nat):LT:=ad (L71 N_) 213 ⟨[.agg [.int .u64,.int .i64,.int .i64]],[]⟩ [.i,.i,.i] (λS_ c_ ZW ZZ Z1=>S_ ZW ZZ Z1 (λr0=>c_ (vwu r0) [])) N_ (xi N_)
def L73 (N_:Nat):LT:=ad (L72 N_) 235 ⟨[.ptr 0 0,.int .u64],[some (264,1,.cells [.bool,.nil])]⟩ [.i,.b] (λS_ c_ n b=>S_ n b (λr0 r1=>c_ (.ptr 0 0) [⟨264,1,.cells [.bool r0,vwr r1]⟩])) N_ (SJ N_)
def L74 (N_:Nat):LT:=ad (L73 N_) 236 ⟨[.ptr 0 0,.ptr 0 0],[some (264,1,.cells [.bool,.roi .u64])]⟩ [.b,.is] (λS_ c_ b Zl=>S_ b Zl (λr0 r1=>c_ (.ptr 0 0) [⟨264,1,.cells [.bool r0,vwr r1]⟩])) N_ (SW N_)
def L75 (N_:Nat):LT:=ad (L74 N_) 263 ⟨[.ptr 0 0,.int .i64],[some (264,1,.cells [.bool,.nil])]⟩ [.i,.b] (λS_ c_ n b=>S_ n b (λr0 r1=>c_ (.ptr 0 0) [⟨264,1,.cells [.bool r0,vwr r1]⟩])) N_ (S0 N_)
def L76 (N_:Nat):LT:=ad (L75 N_) 300 ⟨[.roi .u64,.int .i64],[]⟩ [.is,.i] (λS_ c_ x from_=>S_ x from_ (λr0=>c_ (vwu r0) [])) N_ (xh N_)
def L77 (N_:Nat):LT:=ad (L76 N_) 313 ⟨[.roi .u64,.roi .u64],[]⟩ [.is,.is] (λS_ c_ x y=>S_ x y (λr0=>c_ (vwr r0) [])) N_ (MV N_)
def L78 (N_:Nat):LT:=ad (L77 N_) 301 ⟨[.agg [.int .u64,.int .u64,.int .u64,.int .u64,.bool],.roi .u64,.roi .u64],[]⟩ [.i,.i,.i,.i,.b,.is,.is] (λS_ c_ w_0 w_1 w_2 w_3 w_4 x y=>S_ w_0 w_1 w_2 w_3 w_4 x y (λr0 r1=>c_ (.tup [vwr r0,vwr r1]) [])) N_ (dQ N_)
def L79 (N_:Nat):LT:=ad (L78 N_) 315 ⟨[.int .u64,.int .u64,.int .u64],[]⟩ [.i,.i,.i] (λS_ c_ hi lo y=>S_ hi lo y (λr0 r1=>c_ (.tup [vwu r0,vwu r1]) [])) N_ (Mm N_)
def L80 (N_:Nat):LT:=ad (L79 N_) 303 ⟨[.roi .u64,.int .u64],[]⟩ [.is,.i] (λS_ c_ x d=>S_ x d (λr0 r1=>c_ (.tup [vwr r0,vwu r1]) [])) N_ (rQ N_)
def L81 (N_:Nat):LT:=ad (L80 N_) 316 ⟨[.sl 0,.roi .u64],[some (23,1,.ints .u64)]⟩ [.n,.n,.is,.is] (λS_ c_ Z7 Z5 v b=>S_ Z7 Z5 v b (λr0=>c_ (vwu r0) [⟨23,1,.ints .u64 b⟩])) N_ (uD N_)
def L82 (N_:Nat):LT:=ad (L81 N_) 305 ⟨[.sl 0,.roi .u64],[some (23,1,.ints .u64)]⟩ [.n,.n,.is,.is] (λS_ c_ Z7 Z5 v b=>S_ Z7 Z5 v b (λr0 r1=>c_ (vwu r0) [⟨23,1,.ints .u64 r1⟩])) N_ (v7 N_)
def L83 (N_:Nat):LT:=ao (L82 N_) 316 ⟨[.sl 0,.sl 1],[some (23,1,.ints .u64),some (23,1,.ints .u64)]⟩ [.n,.n,.n,.n,.is,.is] (λS_ c_ Z7 Z5 v_0 Z3 b Zl=>S_ Z7 Z5 v_0 Z3 b Zl (λr0=>c_ (vwu r0) [⟨23,1,.ints .u64 b⟩,⟨23,1,.ints .u64 Zl⟩])) N_ (PX N_)
def L84 (N_:Nat):LT:=ao (L83 N_) 305 ⟨[.sl 0,.sl 1],[some (23,1,.ints .u64),some (23,1,.ints .u64)]⟩ [.n,.n,.n,.n,.is,.is] (λS_ c_ Z7 Z5 v_0 Z3 b Zl=>S_ Z7 Z5 v_0 Z3 b Zl (λr0 r1=>c_ (vwu r0) [⟨23,1,.ints .u64 r1⟩,⟨23,1,.ints .u64 Zl⟩])) N_ (MG N_)
def L85 (N_:Nat):LT:=ad (L84 N_) 306 ⟨[.sl 0,.int .u64],[some (23,1,.ints .u64)]⟩ [.n,.n,.i,.is] (λS_ c_ ZY Zw n b=>S_ ZY Zw n b (λr0 r1=>c_ (.tup [vwr r0,.bool r1]) [⟨23,1,.ints .u64 b⟩])) N_ (IK N_)
def M86 (N_:Nat):LT:=ad (L85 N_) 262 ⟨[.roi .u64,.int .u64],[]⟩ [.is,.i] (λS_ c_ x n=>S_ x n (c_ (.nil) []) (λr0 r1=>c_ (.sl 0 0 r0) [⟨23,1,.ints .u64 r1⟩])) N_ (Tl N_)
def L86 (N_:Nat):LT:=ad (L85 N_) 289 ⟨[.roi .u64,.roi .u64],[]⟩ [.is,.is] (λS_ c_ x y=>S_ x y (λr0 r1=>c_ (.tup [vwr r0,vwr r1]) [])) N_ (MR N_)
def L87 (N_:Nat):LT:=ad (L86 N_) 287 ⟨[.roi .u64,.roi .u64],[]⟩ [.is,.is] (λS_ c_ x y=>S_ x y (λr0=>c_ (vwr r0) [])) N_ (SY N_)
def L88 (N_:Nat):LT:=ad (L87 N_) 264 ⟨[.ptr 0 0,.bool,.roi .u64,.roi .u64],[some (270,1,.cells [.bool,.nil,.bool,.nil])]⟩ [.b,.is,.is,.b,.b] (λS_ c_ neg a b Zl Zq=>S_ neg a b Zl Zq (λr0 r1 r2 r3=>c_ (.ptr 0 0) [⟨270,1,.cells [.bool r0,vwr r1,.bool r2,vwr r3]⟩])) N_ (S4 N_)
def L89 (N_:Nat):LT:=ad (L88 N_) 265 ⟨[.ptr 0 0,.bool,.roi .u64,.slw 1],[some (270,1,.cells [.bool,.nil,.bool,.nil]),some (23,1,.ints .u64)]⟩ [.b,.is,.b,.b,.is] (λS_ c_ neg a b Zl Zq=>S_ neg a b Zl Zq (λr0 r2=>c_ (.ptr 0 0) [⟨270,1,.cells [.bool r0,vwr a,.bool r2,.slw 1]⟩,⟨23,1,.ints .u64 Zq⟩])) N_ (Ta N_)
def L90 (N_:Nat):LT:=ao (L89 N_) 265 ⟨[.ptr 0 0,.bool,.roi .u64,.roi .u64],[some (270,1,.cells [.bool,.nil,.bool,.nil])]⟩ [.b,.is,.is,.b,.b] (λS_ c_ neg a b Zl Zq=>S_ neg a b Zl Zq (λr0 r2=>c_ (.ptr 0 0) [⟨270,1,.cells [.bool r0,vwr a,.bool r2,vwr b]⟩])) N_ (SO N_)
def L91 (N_:Nat):LT:=ad (L90 N_) 292 ⟨[.ptr 0 0,.rp [.bool,.roi .u64,.bool,.roi .u64] 0],[some (270,1,.cells [.bool,.nil,.bool,.nil])]⟩ [.b,.is,.b,.is,.b,.b] (λS_ c_ ZY Zw ZN ZT b Zl=>S_ ZY Zw ZN ZT b Zl (λr0 r1 r2 r3=>c_ (.ptr 0 0) [⟨270,1,.cells [.bool r0,vwr r1,.bool r2,vwr r3]⟩])) N_ (Te N_)
def L92 (N_:Nat):LT:=ad (L91 N_) 309 ⟨[.roi .u64,.roi .u64],[]⟩ [.is,.is] (λS_ c_ x y=>S_ x y (λr0=>c_ (vwr r0) [])) N_ (Tm N_)
def L93 (N_:Nat):LT:=ad (L92 N_) 318 ⟨[.roi .u64,.roi .u64],[]⟩ [.is,.is] (λS_ c_ x y=>S_ x y (λr0=>c_ (vwr r0) [])) N_ (xg N_)
def L94 (N_:Nat):LT:=ad (L93 N_) 310 ⟨[.ptr 0 0,.ptr 0 0,.bool,.roi .u64],[some (264,1,.cells [.bool,.roi .u64])]⟩ [.b,.is,.b,.is] (λS_ c_ neg y b Zl=>S_ neg y b Zl (λr0 r1=>c_ (.ptr 0 0) [⟨264,1,.cells [.bool r0,vwr r1]⟩])) N_ (SS N_)
def L95 (N_:Nat):LT:=ad (L94 N_) 291 ⟨[.ptr 0 0,.rp [.bool,.roi .u64,.bool,.roi .u64] 0,.ptr 1 0],[some (270,1,.cells [.bool,.nil,.bool,.nil]),some (270,1,.cells [.bool,.roi .u64,.bool,.roi .u64])]⟩ [.b,.is,.b,.is,.b,.b,.b,.is,.b,.is] (λS_ c_ ZY Zw ZN ZT b Zl Zq Zy ZK Z2=>S_ ZY Zw ZN ZT b Zl Zq Zy ZK Z2 (λr0 r1 r2 r3=>c_ (.ptr 0 0) [⟨270,1,.cells [.bool r0,vwr r1,.bool r2,vwr r3]⟩,⟨270,1,.cells [.bool Zq,vwr Zy,.bool ZK,vwr Z2]⟩])) N_ (SQ N_)
def L96 (N_:Nat):LT:=ad (L95 N_) 267 ⟨[.ptr 0 0,.rp [.bool,.roi .u64,.bool,.roi .u64] 0,.rp [.bool,.roi .u64,.bool,.roi .u64] 0],[some (270,1,.cells [.bool,.nil,.bool,.nil])]⟩ [.b,.is,.b,.is,.b,.is,.b,.is,.b,.b] (λS_ c_ ZY Zw ZN ZT y_0 ZS y_2 y_3 b Zl=>S_ ZY Zw ZN ZT y_0 ZS y_2 y_3 b Zl (λr0 r1 r2 r3=>c_ (.ptr 0 0) [⟨270,1,.cells [.bool r0,vwr r1,.bool r2,vwr r3]⟩])) N_ (Ml N_)
def L97 (N_:Nat):LT:=ad (L96 N_) 295 ⟨[.ptr 0 0,.bool,.roi .u64,.roi .u64,.roi .u64,.roi .u64],[some (270,1,.cells [.bool,.nil,.bool,.nil])]⟩ [.b,.is,.is,.is,.is,.b,.b] (λS_ c_ neg a b c d Zl Zq=>S_ neg a b c d Zl Zq (λr0 r1 r2 r3=>c_ (.ptr 0 0) [⟨270,1,.cells [.bool r0,vwr r1,.bool r2,vwr r3]⟩])) N_ (SL N_)
def L98 (N_:Nat):LT:=ad (L97 N_) 273 ⟨[.ptr 0 0,.rp [.bool,.roi .u64,.bool,.roi .u64] 0,.rp [.bool,.roi .u64,.bool,.roi .u64] 0],[some (270,1,.cells [.bool,.nil,.bool,.nil])]⟩ [.b,.is,.b,.is,.b,.is,.b,.is,.b,.b] (λS_ c_ ZY Zw ZN ZT y_0 ZS y_2 y_3 b Zl=>S_ ZY Zw ZN ZT y_0 ZS y_2 y_3 b Zl (λr0 r1 r2 r3=>c_ (.ptr 0 0) [⟨270,1,.cells [.bool r0,vwr r1,.bool r2,vwr r3]⟩])) N_ (Mk N_)
def L99 (N_:Nat):LT:=ad (L98 N_) 294 ⟨[.ptr 0 0,.rp [.bool,.roi .u64,.bool,.roi .u64] 0,.rp [.bool,.roi .u64,.bool,.roi .u64] 0],[some (270,1,.cells [.bool,.nil,.bool,.nil])]⟩ [.b,.is,.b,.is,.b,.is,.b,.is,.b,.b] (λS_ c_ ZY Zw ZN ZT y_0 ZS y_2 y_3 b Zl=>S_ ZY Zw ZN ZT y_0 ZS y_2 y_3 b Zl (λr0 r1 r2 r3=>c_ (.ptr 0 0) [⟨270,1,.cells [.bool r0,vwr r1,.bool r2,vwr r3]⟩])) N_ (Mj N_)
def Ts (N_:Nat):LT:=ao (L99 N_) 291 ⟨[.ptr 0 0,.rp [.bool,.roi .u64,.bool,.roi .u64] 0,.rp [.bool,.roi .u64,.bool,.roi .u64] 0],[some (270,1,.cells [.bool,.nil,.bool,.nil])]⟩ [.b,.is,.b,.is,.b,.is,.b,.is,.b,.b] (λS_ c_ ZY Zw ZN ZT y_0 ZS y_2 y_3 b Zl=>S_ ZY Zw ZN ZT y_0 ZS y_2 y_3 b Zl (λr0 r1 r2 r3=>c_ (.ptr 0 0) [⟨270,1,.cells [.bool r0,vwr r1,.bool r2,vwr r3]⟩])) N_ (PV N_)
def Tt (N_:Nat):LT:=ad (Ts N_) 134 ⟨[.int .i64,.int .i64,.fn 220 []],[]⟩ [.i,.i] (λS_ c_ rows cols=>S_ rows cols (λr2=>c_ (.agg [vwi rows,vwi cols,.slw 0]) [⟨36,1,.flts r2⟩])) N_ (Mz N_)
def Tu (N_:Nat):LT:=ad1 2 (Tt N_) 187 ⟨[.flt,.ptr 0 0],[some (171,1,.cells [.ptr 1 0]),some (173,1,.cells [.bool])]⟩ [.f,.b] (λS_ c_ d b=>S_ d b (λr0 r1=>c_ (.tup [.flt r0,vwi r1]) (.any))) N_ (eo N_)
def Tv (N_:Nat):LT:=ad (Tu N_) 223 ⟨[.agg [.int .i64,.int .i64,.rof],.int .i64],[]⟩ [.i,.i,.fs,.i] (λS_ c_ ZB Zn Zv j=>S_ ZB Zn Zv j (λr0=>c_ (.slw 0) [⟨36,1,.flts r0⟩])) N_ (qg N_)
def Tw (N_:Nat):LT:=ao (Tv N_) 134 ⟨[.int .i64,.int .i64,.fn 224 []],[]⟩ [.i,.i] (λS_ c_ rows cols=>S_ rows cols (λr2=>c_ (.agg [vwi rows,vwi cols,.slw 0]) [⟨36,1,.flts r2⟩])) N_ (SG N_)
def Tx (N_:Nat):LT:=ad (Tw N_) 196 ⟨[.int .i64,.fn 197 [.ptr 0 0]],[some (28,1,.cells [.int .i64,.int .i64,.rof])]⟩ [.i,.i,.i,.fs] (λS_ c_ n b Zl Zq=>S_ n b Zl Zq (λr5=>c_ (.agg [vwi n,vwi n,.slw 1]) [⟨28,1,.cells [vwi b,vwi Zl,.rof Zq]⟩,⟨36,1,.flts r5⟩])) N_ (SZ N_)
def Tz (N_:Nat):LT:=ad (Tx N_) 168 ⟨[.flt],[]⟩ [.f] (λS_ c_ x=>S_ x (λr0 r1 r2=>c_ (.tup [.bool r0,vwi r1,vwu r2]) [])) N_ (sa N_)
def TA (N_:Nat):LT:=ad (Tz N_) 138 ⟨[.flt,.flt],[]⟩ [.f,.f] (λS_ c_ a b=>S_ a b (λr0=>c_ (.bool r0) [])) N_ (u_ N_)
def TB (N_:Nat):LT:=ad (TA N_) 112 ⟨[.flt],[]⟩ [.f] (λS_ c_ x=>S_ x (λr0 r1 r2 r3=>c_ (.tup [.agg [.bool r0,vwu r1,vwi r2],vwi r3]) [])) N_ (r_ N_)
def TC (N_:Nat):LT:=ad (TB N_) 113 ⟨[.ptr 0 0,.int .u64],[some (158,1,.cells [.bool,.nil])]⟩ [.i,.b] (λS_ c_ n b=>S_ n b (λr0 r1=>c_ (.ptr 0 0) [⟨158,1,.cells [.bool r0,vws r1]⟩])) N_ (S3 N_)
def TD (N_:Nat):LT:=ad (TC N_) 114 ⟨[.ptr 0 0,.ptr 0 0],[some (158,1,.cells [.bool,.roi .u32])]⟩ [.b,.is] (λS_ c_ b Zl=>S_ b Zl (λr0 r1=>c_ (.ptr 0 0) [⟨158,1,.cells [.bool r0,vws r1]⟩])) N_ (MP N_)
def TE (N_:Nat):LT:=ad (TD N_) 66 ⟨[.flt],[]⟩ [.f] (λS_ c_ x=>S_ x (λr0 r1 r2=>c_ (.agg [.ptr 0 0,vwi r0]) [⟨158,1,.cells [.bool r1,vws r2]⟩])) N_ (zY N_)
def Nc (N_:Nat):LT:=ad (TE N_) 174 ⟨[.ptr 0 0,.ptr 1 0,.int .u64],[some (158,1,.cells [.bool,.nil]),some (158,1,.cells [.bool,.roi .u32])]⟩ [.i,.b,.b,.is] (λS_ c_ n b Zl Zq=>S_ n b Zl Zq (λr0 r1=>c_ (.ptr 0 0) [⟨158,1,.cells [.bool r0,vws r1]⟩,⟨158,1,.cells [.bool Zl,vws Zq]⟩])) N_ (Mr N_)
def Xo (N_:Nat):LT:=ad (Nc N_) 210 ⟨[.roi .u32,.int .u64],[]⟩ [.is,.i] (λS_ c_ m n=>S_ m n (c_ (.nil) []) (λr0 r1=>c_ (.sl 0 0 r0) [⟨238,1,.ints .u32 r1⟩])) N_ (Tn N_)
def TF (N_:Nat):LT:=ad (Nc N_) 257 ⟨[.roi .u32,.roi .u32],[]⟩ [.is,.is] (λS_ c_ a b=>S_ a b (λr0 r1=>c_ (.tup [vws r0,vws r1]) [])) N_ (M9 N_)
def TG (N_:Nat):LT:=ad (TF N_) 256 ⟨[.roi .u32,.roi .u32],[]⟩ [.is,.is] (λS_ c_ a b=>S_ a b (λr0=>c_ (vws r0) [])) N_ (MQ N_)
def TH (N_:Nat):LT:=ad (TG N_) 229 ⟨[.ptr 0 0,.bool,.roi .u32,.roi .u32],[some (235,1,.cells [.bool,.nil,.bool,.nil])]⟩ [.b,.is,.is,.b,.b] (λS_ c_ neg a b Zl Zq=>S_ neg a b Zl Zq (λr0 r1 r2 r3=>c_ (.ptr 0 0) [⟨235,1,.cells [.bool r0,vws r1,.bool r2,vws r3]⟩])) N_ (SK N_)
def TI (N_:Nat):LT:=ad (TH N_) 176 ⟨[.ptr 0 0,.int .i64],[some (158,1,.cells [.bool,.nil])]⟩ [.i,.b] (λS_ c_ n b=>S_ n b (λr0 r1=>c_ (.ptr 0 0) [⟨158,1,.cells [.bool r0,vws r1]⟩])) N_ (Mw N_)
def TJ (N_:Nat):LT:=ad1 2 (TI N_) 230 ⟨[.rp [.bool,.roi .u32,.bool,.roi .u32] 0],[]⟩ [.b,.is,.b,.is] (λS_ c_ r_0 r_1 r_2 r_3=>S_ r_0 r_1 r_2 r_3 (λr0=>c_ (vws r0) (.any))) N_ (Mu N_)
def TK (N_:Nat):LT:=ad (TJ N_) 226 ⟨[.ptr 0 0,.rp [.bool,.roi .u32,.bool,.roi .u32] 0],[some (235,1,.cells [.bool,.roi .u32,.bool,.roi .u32])]⟩ [.b,.is,.b,.is,.b,.is,.b,.is] (λS_ c_ ZY Zw ZN ZT b Zl Zq Zy=>S_ ZY Zw ZN ZT b Zl Zq Zy (λr0 r1 r2 r3=>c_ (.ptr 0 0) [⟨235,1,.cells [.bool r0,vws r1,.bool r2,vws r3]⟩])) N_ (Tg N_)
def TL (N_:Nat):LT:=ad (TK N_) 200 ⟨[.agg [.int .i64,.int .i64,.rl RT2]],[]⟩ [.i,.i,.r RT2] (λS_ c_ ZB Zn Zv=>S_ ZB Zn Zv (λr2=>c_ (.agg [vwi ZB,vwi Zn,.slw 0]) [⟨231,1,.own 235 RT1 r2 []⟩])) N_ (Tf N_)
def TM (N_:Nat):LT:=ao1 2 (TL N_) 230 ⟨[.ptr 0 0],[some (235,1,.cells [.bool,.roi .u32,.bool,.roi .u32])]⟩ [.b,.is,.b,.is] (λS_ c_ b Zl Zq Zy=>S_ b Zl Zq Zy (λr0=>c_ (vws r0) (.any))) N_ (GQ5 N_)
def TN (N_:Nat):LT:=ad (TM N_) 204 ⟨[.ptr 0 0,.ptr 1 0,.ptr 2 0],[some (235,1,.cells [.bool,.nil,.bool,.nil]),some (235,1,.cells [.bool,.roi .u32,.bool,.roi .u32]),some (235,1,.cells [.bool,.roi .u32,.bool,.roi .u32])]⟩ [.b,.b,.b,.is,.b,.is,.b,.is,.b,.is] (λS_ c_ b Zl Zq Zy ZK Z2 b_6 b_7 b_8 b_9=>S_ b Zl Zq Zy ZK Z2 b_6 b_7 b_8 b_9 (λr0 r1 r2 r3=>c_ (.ptr 0 0) [⟨235,1,.cells [.bool r0,vws r1,.bool r2,vws r3]⟩,⟨235,1,.cells [.bool Zq,vws Zy,.bool ZK,vws Z2]⟩,⟨235,1,.cells [.bool b_6,vws b_7,.bool b_8,vws b_9]⟩])) N_ (SI N_)
def TO (N_:Nat):LT:=ad (TN N_) 228 ⟨[.ptr 0 0,.ptr 1 0,.ptr 2 0],[some (235,1,.cells [.bool,.nil,.bool,.nil]),some (235,1,.cells [.bool,.roi .u32,.bool,.roi .u32]),some (235,1,.cells [.bool,.roi .u32,.bool,.roi .u32])]⟩ [.b,.b,.b,.is,.b,.is,.b,.is,.b,.is] (λS_ c_ b Zl Zq Zy ZK Z2 b_6 b_7 b_8 b_9=>S_ b Zl Zq Zy ZK Z2 b_6 b_7 b_8 b_9 (λr0 r1 r2 r3=>c_ (.ptr 0 0) [⟨235,1,.cells [.bool r0,vws r1,.bool r2,vws r3]⟩,⟨235,1,.cells [.bool Zq,vws Zy,.bool ZK,vws Z2]⟩,⟨235,1,.cells [.bool b_6,vws b_7,.bool b_8,vws b_9]⟩])) N_ (SH N_)
def TP (N_:Nat):LT:=ad (TO N_) 249 ⟨[.ptr 0 0,.ptr 1 0],[some (235,1,.cells [.bool,.roi .u32,.bool,.roi .u32]),some (235,1,.cells [.bool,.roi .u32,.bool,.roi .u32])]⟩ [.b,.is,.b,.is,.b,.is,.b,.is] (λS_ c_ b Zl Zq Zy ZK Z2 b_6 b_7=>S_ b Zl Zq Zy ZK Z2 b_6 b_7 (λr9 r11=>c_ (.tup [.ptr 2 0,.ptr 3 0]) [⟨235,1,.cells [.bool b,vws Zl,.bool Zq,vws Zy]⟩,⟨235,1,.cells [.bool ZK,vws Z2,.bool b_6,vws b_7]⟩,⟨158,1,.cells [.bool b,vws r9]⟩,⟨158,1,.cells [.bool ZK,vws r11]⟩])) N_ (Tb N_)
def TQ (N_:Nat):LT:=ad (TP N_) 173 ⟨[.ptr 0 0,.ptr 1 0,.ptr 2 0,.bool],[some (158,1,.cells [.bool,.nil]),some (158,1,.cells [.bool,.roi .u32]),some (158,1,.cells [.bool,.roi .u32])]⟩ [.b,.b,.b,.is,.b,.is] (λS_ c_ turn b Zl Zq Zy ZK=>S_ turn b Zl Zq Zy ZK (λr0 r1=>c_ (.ptr 0 0) [⟨158,1,.cells [.bool r0,vws r1]⟩,⟨158,1,.cells [.bool Zl,vws Zq]⟩,⟨158,1,.cells [.bool Zy,vws ZK]⟩])) N_ (Ti N_)
def TR (N_:Nat):LT:=ao (TQ N_) 229 ⟨[.ptr 0 0,.bool,.roi .u32,.roi .u32],[some (235,1,.cells [.bool,.roi .u32,.bool,.roi .u32])]⟩ [.b,.is,.is,.b,.is,.b,.is] (λS_ c_ neg a b Zl Zq Zy ZK=>S_ neg a b Zl Zq Zy ZK (λr0 r1 r2 r3=>c_ (.ptr 0 0) [⟨235,1,.cells [.bool r0,vws r1,.bool r2,vws r3]⟩])) N_ (S6 N_)
def TS (N_:Nat):LT:=ad (TR N_) 151 ⟨[.int .i64],[]⟩ [.i] (λS_ c_ n=>S_ n (λr2=>c_ (.agg [vwi n,vwi n,.rof r2]) [])) N_ (vc N_)
def TT (N_:Nat):LT:=ad (TS N_) 199 ⟨[.agg [.int .i64,.int .i64,.rof],.int .i64],[]⟩ [.i,.i,.fs,.i] (λS_ c_ ZB Zn Zv j=>S_ ZB Zn Zv j (λr0=>c_ (.rof r0) [])) N_ (IJ N_)
def TU (N_:Nat):LT:=ad (TT N_) 152 ⟨[.agg [.int .i64,.int .i64,.rof]],[]⟩ [.i,.i,.fs] (λS_ c_ ZB Zn Zv=>S_ ZB Zn Zv (λr2=>c_ (.agg [vwi ZB,vwi Zn,.rof r2]) [])) N_ (MD N_)
def TV (N_:Nat):LT:=ao (TU N_) 152 ⟨[.agg [.int .i64,.int .i64,.slw 0]],[some (36,1,.flts)]⟩ [.i,.i,.fs] (λS_ c_ ZB Zn b=>S_ ZB Zn b (λr2=>c_ (.agg [vwi ZB,vwi Zn,.rof r2]) [⟨36,1,.flts b⟩])) N_ (MK N_)
def TW (N_:Nat):LT:=upM Pg km N_ fmd (TV N_) [251,275,120,274,117,52,108,139,193,270,271,247,243,240,239,238,179]
def TX (N_:Nat):LT:=ad (TW N_) 211 ⟨[.int .u64,.agg [.int .u64,.int .i64,.int .i64]],[]⟩ [.i,.i,.i,.i] (λS_ c_ b ZW ZZ Z1=>S_ b ZW ZZ Z1 (λr0 r1 r2=>c_ (.tup [.bool r0,vwi r1,vwu r2]) [])) N_ (S2 N_)
def Nd (N_:Nat):LT:=ad (TX N_) 177 ⟨[.int .u64,.agg [.int .u64,.int .i64,.int .i64]],[]⟩ [.i,.i,.i,.i] (λS_ c_ b ZW ZZ Z1=>S_ b ZW ZZ Z1 (λr0=>c_ (vwi r0) [])) N_ (S1 N_)
def V3:FnSh:=⟨[.flt],[]⟩
def PD (aee:Ni):SPT:=λa_ c_=>match a_ with
 | [.fl x]=>aee x (λr0=>c_ (vwi r0) [])
 | _=>false
abbrev Wi (aee:Ni):Fs:=fJ V3 (PD aee)
def TY (N_:Nat):LT:=(122,(Wi (Po N_)))::Nd N_
def Ss:FnSh:=⟨[.fb],[]⟩
def V6 (SQ6:WG):SPT:=λa_ c_=>match a_ with
 | [.nat x]=>SQ6 x (λr0=>c_ (vwi r0) [])
 | _=>false
abbrev FQ6 (SQ6:WG):Fs:=fJ Ss (V6 SQ6)
def TZ (N_:Nat):LT:=ad (TY N_) 75 ⟨[.rof],[]⟩ [.fs] (λS_ c_ l=>S_ l (λr0=>c_ (.bool r0) [])) N_ (MF N_)
def Nf (N_:Nat):LT:=ad (TZ N_) 74 ⟨[.agg [.int .i64,.int .i64,.rof]],[]⟩ [.i,.i,.fs] (λS_ c_ ZB Zn Zv=>S_ ZB Zn Zv (λr0=>c_ (vwi r0) [])) N_ (SF N_)
def V4:FnSh:=⟨[.flt,.flt],[]⟩
def PF (aeg:Nj):SPT:=λa_ c_=>match a_ with
 | [.fl a,.fl b]=>aeg a b (λr0=>c_ (.bool r0) [])
 | _=>false
abbrev Wj (aeg:Nj):Fs:=fJ V4 (PF aeg)
def T0 (N_:Nat):LT:=(123,(Wj (Pq N_)))::Nf N_
def Su:FnSh:=⟨[.fb,.fb],[]⟩
def V7 (SQ7:WH):SPT:=λa_ c_=>match a_ with
 | [.nat a,.nat b]=>SQ7 a b (λr0=>c_ (.bool r0) [])
 | _=>false
abbrev FQ7 (SQ7:WH):Fs:=fJ Su (V7 SQ7)
def T1 (N_:Nat):LT:=ad (T0 N_) 76 ⟨[.agg [.int .i64,.int .i64,.rof]],[]⟩ [.i,.i,.fs] (λS_ c_ ZB Zn Zv=>S_ ZB Zn Zv (λr0=>c_ (.bool r0) [])) N_ (SP N_)
def T2 (N_:Nat):LT:=ad (T1 N_) 258 ⟨[.int .u64,.agg [.int .u64,.int .i64,.int .i64]],[]⟩ [.i,.i,.i,.i] (λS_ c_ b ZW ZZ Z1=>S_ b ZW ZZ Z1 (λr0 r1 r2 r3=>c_ (.tup [.agg [.bool r0,vwu r1,vwi r2],vwi r3]) [])) N_ (Td N_)
def T3 (N_:Nat):LT:=ad (T2 N_) 216 ⟨[.agg [.int .i64,.int .i64,.slw 0]],[some (249,1,.recs RT0)]⟩ [.i,.i,.r RT0] (λS_ c_ g_0 g_1 b=>S_ g_0 g_1 b (c_ (.tup []) [⟨249,1,.recs RT0 b⟩])) N_ (cG N_)
def T4 (N_:Nat):LT:=ad (T3 N_) 272 ⟨[.int .i64,.int .i64],[]⟩ [.i,.i] (λS_ c_ a b=>S_ a b (λr0 r1 r2 r3=>c_ (.ptr 0 0) [⟨270,1,.cells [.bool r0,vwr r1,.bool r2,vwr r3]⟩])) N_ (pZ N_)
def T5 (N_:Nat):LT:=ad (T4 N_) 245 ⟨[.agg [.int .i64,.int .i64,.slw 0],.int .i64,.int .i64,.agg [.rp [.bool,.roi .u64,.bool,.roi .u64] 0]],[some (249,1,.recs RT0)]⟩ [.i,.i,.i,.i,.b,.is,.b,.is,.r RT0] (λS_ c_ g_0 g_1 i k_ ZY Zw ZN ZT b=>S_ g_0 g_1 i k_ ZY Zw ZN ZT b (λr0=>c_ (.tup []) [⟨249,1,.recs RT0 r0⟩])) N_ (eV N_)
def T6 (N_:Nat):LT:=ad (T5 N_) 142 ⟨[.agg [.int .i64,.int .i64,.rof]],[]⟩ [.i,.i,.fs] (λS_ c_ ZD Zu ZH=>S_ ZD Zu ZH (λr0=>c_ (vwi r0) [])) N_ (rT N_)
def T7 (N_:Nat):LT:=ad (T6 N_) 126 ⟨[.agg [.int .i64,.int .i64,.rof]],[]⟩ [.i,.i,.fs] (λS_ c_ ZD Zu ZH=>S_ ZD Zu ZH (λr0=>c_ (vwi r0) [])) N_ (pd N_)
def T8 (N_:Nat):LT:=ad (T7 N_) 194 ⟨[.agg [.int .i64,.int .i64,.rof],.int .i64],[]⟩ [.i,.i,.fs,.i] (λS_ c_ ZB Zn Zv j=>S_ ZB Zn Zv j (λr0 r1=>c_ (.tup [.rof r0,vwi r1]) [])) N_ (qf N_)
def T9 (N_:Nat):LT:=ad (T8 N_) 86 ⟨[.rof],[]⟩ [.fs] (λS_ c_ l=>S_ l (λr0=>c_ (.bool r0) [])) N_ (To N_)
def T_ (N_:Nat):LT:=ad (T9 N_) 137 ⟨[.agg [.int .i64,.int .i64,.rof]],[]⟩ [.i,.i,.fs] (λS_ c_ ZB Zn Zv=>S_ ZB Zn Zv (λr0=>c_ (vwi r0) [])) N_ (va N_)
def Ua (N_:Nat):LT:=ad (T_ N_) 82 ⟨[.agg [.int .i64,.int .i64,.rof]],[]⟩ [.i,.i,.fs] (λS_ c_ ZB Zn Zv=>S_ ZB Zn Zv (λr0=>c_ (vwi r0) [])) N_ (PW N_)
def Ub (N_:Nat):LT:=ad (Ua N_) 248 ⟨[.agg [.ptr 0 0,.int .i64]],[some (158,1,.cells [.bool,.roi .u32])]⟩ [.i,.b,.is] (λS_ c_ x b Zl=>S_ x b Zl (λr2 r3 r4 r5=>c_ (.ptr 1 0) [⟨158,1,.cells [.bool b,vws Zl]⟩,⟨235,1,.cells [.bool r2,vws r3,.bool r4,vws r5]⟩])) N_ (Tc N_)
def Uc (N_:Nat):LT:=ad (Ub N_) 227 ⟨[.ptr 0 0,.ptr 0 0,.ptr 1 0],[some (235,1,.cells [.bool,.roi .u32,.bool,.roi .u32]),some (235,1,.cells [.bool,.roi .u32,.bool,.roi .u32])]⟩ [.b,.is,.b,.is,.b,.is,.b,.is] (λS_ c_ b Zl Zq Zy ZK Z2 b_6 b_7=>S_ b Zl Zq Zy ZK Z2 b_6 b_7 (λr0 r1 r2 r3=>c_ (.ptr 0 0) [⟨235,1,.cells [.bool r0,vws r1,.bool r2,vws r3]⟩,⟨235,1,.cells [.bool ZK,vws Z2,.bool b_6,vws b_7]⟩])) N_ (SM N_)
def Ud (N_:Nat):LT:=ad (Uc N_) 203 ⟨[.agg [.int .i64,.int .i64,.slw 0],.int .i64,.int .i64,.ptr 1 0],[some (231,1,.own 235 RT1),some (235,1,.cells [.bool,.roi .u32,.bool,.roi .u32])]⟩ [.i,.i,.i,.i,.r RT1,.b,.is,.b,.is] (λS_ c_ ZB Zn i k_ b Zl Zq Zy ZK=>S_ ZB Zn i k_ b Zl Zq Zy ZK (λr0=>c_ (.tup []) [⟨231,1,.own 235 RT1 r0 []⟩,⟨235,1,.cells [.bool Zl,vws Zq,.bool Zy,vws ZK]⟩])) N_ (SR N_)
def Ue (N_:Nat):LT:=ad (Ud N_) 154 ⟨[.agg [.int .i64,.int .i64,.rl RT2]],[]⟩ [.i,.i,.r RT2] (λS_ c_ ZB Zn Zv=>S_ ZB Zn Zv (λr0=>c_ (vwi r0) [])) N_ (MC N_)
def Uf (N_:Nat):LT:=ad (Ue N_) 149 ⟨[.agg [.int .i64,.int .i64,.rof]],[]⟩ [.i,.i,.fs] (λS_ c_ ZD Zu ZH=>S_ ZD Zu ZH (λr0=>c_ (vwi r0) [])) N_ (MS N_)
def Ug (N_:Nat):LT:=ad (Uf N_) 55 ⟨[.ptr 0 0,.flt],[some (100,1,.cells [.bool])]⟩ [.f,.b] (λS_ c_ x b=>S_ x b (λr1=>c_ (.flt x) [⟨100,1,.cells [.bool r1]⟩])) N_ (Mi N_)
def Uh (N_:Nat):LT:=ad (Ug N_) 102 ⟨[.agg [.int .i64,.int .i64,.rof]],[]⟩ [.i,.i,.fs] (λS_ c_ ZD Zu ZH=>S_ ZD Zu ZH (λr0 r1 r2 r3 r4=>c_ (.tup [.agg [vwi r0,vwi r1,.rof r2],vwi r3,vwi r4]) [])) N_ (vb N_)
def Ui (N_:Nat):LT:=ad (Uh N_) 165 ⟨[.agg [.int .i64,.int .i64,.rof],.rof,.ptr 0 0],[some (100,1,.cells [.bool])]⟩ [.i,.i,.fs,.fs,.b] (λS_ c_ l_0 l_1 l_2 b Zl=>S_ l_0 l_1 l_2 b Zl (λr0 r1=>c_ (.rof r0) [⟨100,1,.cells [.bool r1]⟩])) N_ (Mp N_)
def Uj (N_:Nat):LT:=ad (Ui N_) 164 ⟨[.agg [.int .i64,.int .i64,.rof],.rof,.ptr 0 0],[some (100,1,.cells [.bool])]⟩ [.i,.i,.fs,.fs,.b] (λS_ c_ l_0 l_1 l_2 b Zl=>S_ l_0 l_1 l_2 b Zl (λr0 r1=>c_ (.rof r0) [⟨100,1,.cells [.bool r1]⟩])) N_ (Mq N_)
def Uk (N_:Nat):LT:=ad (Uj N_) 150 ⟨[.agg [.int .i64,.int .i64,.rof],.agg [.int .i64,.int .i64,.rof]],[]⟩ [.i,.i,.fs,.i,.i,.fs] (λS_ c_ ZD Zu ZH b_0 Zl Zq=>S_ ZD Zu ZH b_0 Zl Zq (λr0 r1 r2 r3 r4=>c_ (.tup [.agg [vwi r0,vwi r1,.rof r2],vwi r3,vwi r4]) [])) N_ (ML N_)
def Ul (N_:Nat):LT:=ad (Uk N_) 94 ⟨[.agg [.int .i64,.int .i64,.rof]],[]⟩ [.i,.i,.fs] (λS_ c_ ZD Zu ZH=>S_ ZD Zu ZH (λr0 r1 r2 r3 r4=>c_ (.tup [.agg [vwi r0,vwi r1,.rof r2],vwi r3,vwi r4]) [])) N_ (MJ N_)
def Um (N_:Nat):LT:=ad (Ul N_) 96 ⟨[.ptr 0 0,.rof,.rof],[some (100,1,.cells [.bool])]⟩ [.fs,.fs,.b] (λS_ c_ a b Zl=>S_ a b Zl (λr0 r1=>c_ (.flt r0) [⟨100,1,.cells [.bool r1]⟩])) N_ (IL N_)
def Un (N_:Nat):LT:=ad (Um N_) 143 ⟨[.int .i64,.rof],[]⟩ [.i,.fs] (λS_ c_ rows b=>S_ rows b (λr0=>c_ (vwi r0) [])) N_ (rU N_)
def Uo (N_:Nat):LT:=ad (Un N_) 155 ⟨[.agg [.int .i64,.int .i64,.rof],.int .i64],[]⟩ [.i,.i,.fs,.i] (λS_ c_ ZB Zn Zv n=>S_ ZB Zn Zv n (λr0=>c_ (vwi r0) [])) N_ (mT N_)
def Up (N_:Nat):LT:=ad (Uo N_) 163 ⟨[.agg [.int .i64,.int .i64,.rof],.rof],[]⟩ [.i,.i,.fs,.fs] (λS_ c_ l_0 l_1 l_2 b=>S_ l_0 l_1 l_2 b (λr0=>c_ (vwi r0) [])) N_ (vg N_)
def Uq (N_:Nat):LT:=ad (Up N_) 100 ⟨[.agg [.int .i64,.int .i64,.rof],.rof],[]⟩ [.i,.i,.fs,.fs] (λS_ c_ ZD Zu ZH b=>S_ ZD Zu ZH b (λr0 r1 r2=>c_ (.tup [.rof r0,vwi r1,vwi r2]) [])) N_ (sf N_)
def Ur (N_:Nat):LT:=ad (Uq N_) 162 ⟨[.agg [.int .i64,.int .i64,.rof],.agg [.int .i64,.int .i64,.rof],.ptr 0 0],[some (100,1,.cells [.bool])]⟩ [.i,.i,.fs,.i,.i,.fs,.b] (λS_ c_ ZD Zu ZH b_0 Zl Zq b=>S_ ZD Zu ZH b_0 Zl Zq b (λr2 r3=>c_ (.agg [vwi ZD,vwi Zl,.slw 1]) [⟨100,1,.cells [.bool r2]⟩,⟨36,1,.flts r3⟩])) N_ (MN N_)
def Us (N_:Nat):LT:=ao (Ur N_) 96 ⟨[.ptr 0 0,.sl 1,.rof],[some (100,1,.cells [.bool]),some (36,1,.flts)]⟩ [.n,.n,.fs,.b,.fs] (λS_ c_ ZD Zu b Zl Zq=>S_ ZD Zu b Zl Zq (λr0 r1=>c_ (.flt r0) [⟨100,1,.cells [.bool r1]⟩,⟨36,1,.flts Zq⟩])) N_ (M3 N_)
def Ut (N_:Nat):LT:=upM Pg km N_ fmd (Us N_) [218,85,195,186,147,146,246,234]
def Uu (N_:Nat):LT:=ad (Ut N_) 215 ⟨[.flt],[]⟩ [.f] (λS_ c_ x=>S_ x (λr0 r1 r2 r3=>c_ (.agg [.rp [.bool r0,vwr r1,.bool r2,vwr r3] 0]) [])) N_ (j_ N_)
def Uv (N_:Nat):LT:=ad (Uu N_) 182 ⟨[.agg [.int .i64,.int .i64,.rof]],[]⟩ [.i,.i,.fs] (λS_ c_ ZB Zn Zv=>S_ ZB Zn Zv (λr2=>c_ (.agg [vwi ZB,vwi Zn,.slw 0]) [⟨249,1,.recs RT0 r2⟩])) N_ (jr N_)
def Uw (N_:Nat):LT:=ad (Uv N_) 217 ⟨[.agg [.int .i64,.int .i64,.slw 0]],[some (249,1,.recs RT0)]⟩ [.i,.i,.r RT0] (λS_ c_ g_0 g_1 b=>S_ g_0 g_1 b (λr0 r1=>c_ (vwi r0) [⟨249,1,.recs RT0 r1⟩])) N_ (db N_)
def Ux (N_:Nat):LT:=ad1 4 (Uw N_) 185 ⟨[.flt,.flt,.flt,.int .i64,.ptr 0 0],[some (171,1,.cells [.ptr 1 0]),some (173,1,.cells [.bool])]⟩ [.f,.f,.f,.i,.b] (λS_ c_ t a b v_ Zl=>S_ t a b v_ Zl (λr0 r1=>c_ (.flt r0) (.bool r1))) N_ (ek N_)
def Uy (N_:Nat):LT:=ad1 10 (Ux N_) 184 ⟨[.int .i64,.int .i64,.ptr 0 0,.ptr 1 0,.ptr 2 0,.ptr 3 0],[some (176,1,.cells [.fn 128 [.ptr 4 0]]),some (26,1,.cells [.slw 5]),some (3,1,.cells [.int .i64]),some (180,1,.cells [.fn 185 [.ptr 6 0],.fn 187 [.ptr 6 0],.fn 188 [.ptr 6 0]]),some (28,1,.cells [.int .i64,.int .i64,.rof]),some (36,1,.flts),some (171,1,.cells [.ptr 7 0]),some (173,1,.cells [.bool])]⟩ [.i,.i,.i,.i,.i,.fs,.fs,.b] (λS_ c_ i j b Zl Zq Zy ZK Z2=>S_ i j b Zl Zq Zy ZK Z2 (λr0 r6=>c_ (.flt r0) (.bool r6))) N_ (bG N_)
def Uz (N_:Nat):LT:=ad1 4 (Uy N_) 188 ⟨[.flt,.flt,.ptr 0 0],[some (171,1,.cells [.ptr 1 0]),some (173,1,.cells [.bool])]⟩ [.f,.f,.b] (λS_ c_ t head b=>S_ t head b (λr0 r1=>c_ (.flt r0) (.bool r1))) N_ (ep N_)
def UA (N_:Nat):LT:=ad (Uz N_) 127 ⟨[.int .i64,.fn 128 [.ptr 0 0],.agg [.fn 185 [.ptr 1 0],.fn 187 [.ptr 1 0],.fn 188 [.ptr 1 0]]],[some (28,1,.cells [.int .i64,.int .i64,.rof]),some (171,1,.cells [.ptr 2 0]),some (173,1,.cells [.bool])]⟩ [.i,.i,.i,.fs,.b] (λS_ c_ n b Zl Zq Zy=>S_ n b Zl Zq Zy (λr0 r1 r5 r6=>c_ (.tup [.nil,.slw 3,vwi r0,vwi r1]) [⟨28,1,.cells [vwi b,vwi Zl,.rof Zq]⟩,⟨171,1,.cells [.ptr 2 0]⟩,⟨173,1,.cells [.bool r5]⟩,⟨36,1,.flts r6⟩]) (λr0 r1 r5 r6 r7=>c_ (.tup [.slw 3,.slw 4,vwi r0,vwi r1]) [⟨28,1,.cells [vwi b,vwi Zl,.rof Zq]⟩,⟨171,1,.cells [.ptr 2 0]⟩,⟨173,1,.cells [.bool r5]⟩,⟨36,1,.flts r6⟩,⟨36,1,.flts r7⟩])) N_ (da N_)
def UB (N_:Nat):LT:=ad (UA N_) 78 ⟨[.agg [.int .i64,.int .i64,.rof]],[]⟩ [.i,.i,.fs] (λS_ c_ ZD Zu ZH=>S_ ZD Zu ZH (λr0 r1 r2 r3 r4=>c_ (.tup [.agg [vwi r0,vwi r1,.rof r2],vwi r3,vwi r4]) [])) N_ (rR N_)
def UC (N_:Nat):LT:=ad (UB N_) 133 ⟨[.ptr 0 0,.agg [.int .i64,.int .i64,.rof],.rof],[some (173,1,.cells [.bool])]⟩ [.i,.i,.fs,.fs,.b] (λS_ c_ l_0 l_1 l_2 b Zl=>S_ l_0 l_1 l_2 b Zl (λr0 r1=>c_ (.rof r0) [⟨173,1,.cells [.bool r1]⟩])) N_ (ij N_)
def UD (N_:Nat):LT:=ad (UC N_) 144 ⟨[.ptr 0 0,.agg [.int .i64,.int .i64,.rof],.rof],[some (173,1,.cells [.bool])]⟩ [.i,.i,.fs,.fs,.b] (λS_ c_ l_0 l_1 l_2 b Zl=>S_ l_0 l_1 l_2 b Zl (λr0 r1=>c_ (.rof r0) [⟨173,1,.cells [.bool r1]⟩])) N_ (j7 N_)
def UE (N_:Nat):LT:=ad (UD N_) 140 ⟨[.agg [.int .i64,.int .i64,.rof],.agg [.int .i64,.int .i64,.rof]],[]⟩ [.i,.i,.fs,.i,.i,.fs] (λS_ c_ ZD Zu ZH b_0 Zl Zq=>S_ ZD Zu ZH b_0 Zl Zq (λr0 r1 r2 r3 r4=>c_ (.tup [.agg [vwi r0,vwi r1,.rof r2],vwi r3,vwi r4]) [])) N_ (mR N_)
def UF (N_:Nat):LT:=ad (UE N_) 141 ⟨[.agg [.int .i64,.int .i64,.rof]],[]⟩ [.i,.i,.fs] (λS_ c_ ZB Zn Zv=>S_ ZB Zn Zv (λr0 r1 r2 r3=>c_ (.tup [.agg [vwi r0,vwi r1,.rof r2],vwi r3]) [])) N_ (My N_)
def UG (N_:Nat):LT:=ad (UF N_) 83 ⟨[.agg [.int .i64,.int .i64,.rof]],[]⟩ [.i,.i,.fs] (λS_ c_ ZD Zu ZH=>S_ ZD Zu ZH (λr0 r1 r2 r3 r4=>c_ (.tup [.agg [vwi r0,vwi r1,.rof r2],vwi r3,vwi r4]) [])) N_ (nJ N_)
def UH (N_:Nat):LT:=ad (UG N_) 111 ⟨[.agg [.rof,.int .i64,.int .i64,.rof]],[]⟩ [.fs,.i,.i,.fs] (λS_ c_ s_0 ZU Z9 s_3=>S_ s_0 ZU Z9 s_3 (λr0=>c_ (vwi r0) [])) N_ (sj N_)
def UI (N_:Nat):LT:=ad (UH N_) 189 ⟨[.agg [.int .i64,.int .i64,.rof]],[]⟩ [.i,.i,.fs] (λS_ c_ ZB Zn Zv=>S_ ZB Zn Zv (λr2=>c_ (.agg [vwi ZB,vwi Zn,.slw 0]) [⟨231,1,.own 235 RT1 r2 []⟩])) N_ (sb N_)
def UJ (N_:Nat):LT:=ad (UI N_) 84 ⟨[.agg [.int .i64,.int .i64,.rof],.rof],[]⟩ [.i,.i,.fs,.fs] (λS_ c_ ZD Zu ZH b=>S_ ZD Zu ZH b (λr0 r1 r2=>c_ (.tup [.rof r0,vwi r1,vwi r2]) [])) N_ (p9 N_)
def UK (N_:Nat):LT:=ad (UJ N_) 161 ⟨[.agg [.int .i64,.int .i64,.rof],.int .i64],[]⟩ [.i,.i,.fs,.i] (λS_ c_ ZW ZZ Z1 rows=>S_ ZW ZZ Z1 rows (λr0=>c_ (vwi r0) [])) N_ (M7 N_)
def UL (N_:Nat):LT:=upM Pg km N_ fmd (UK N_) [95,153,183]
def UM (N_:Nat):LT:=ad (UL N_) 125 ⟨[.agg [.int .i64,.int .i64,.rof]],[]⟩ [.i,.i,.fs] (λS_ c_ ZB Zn Zv=>S_ ZB Zn Zv (λr0 r1=>c_ (.tup [vwi r0,vwi r1]) [])) N_ (j9 N_)
def UN (N_:Nat):LT:=ad (UM N_) 65 ⟨[.agg [.rof,.int .i64,.int .i64,.rof]],[]⟩ [.fs,.i,.i,.fs] (λS_ c_ s_0 ZU Z9 s_3=>S_ s_0 ZU Z9 s_3 (λr0=>c_ (vwi r0) [])) N_ (si N_)
def UO (N_:Nat):LT:=ad (UN N_) 33 ⟨[.agg [.rof,.int .i64,.int .i64,.rof]],[]⟩ [.fs,.i,.i,.fs] (λS_ c_ t_0 t_1 t_2 t_3=>S_ t_0 t_1 t_2 t_3 (λr0 r1 r2 r3 r4=>c_ (.tup [.agg [vwi r0,vwi r1,.rof r2,.rof r3],vwi r4]) [])) N_ (wh N_)
def UP (N_:Nat):LT:=ad (UO N_) 109 ⟨[.slw 0,.agg [.int .i64,.int .i64,.slw 1],.ptr 2 0],[some (36,1,.flts),some (36,1,.flts),some (100,1,.cells [.bool])]⟩ [.i,.i,.fs,.fs,.b] (λS_ c_ p_0 p_1 b Zl Zq=>S_ p_0 p_1 b Zl Zq (λr0 r1 r2=>c_ (.tup [.agg [.nil,vwi r0,vwi r1,.nil],vwi r2]) [⟨36,1,.flts b⟩,⟨36,1,.flts Zl⟩,⟨100,1,.cells [.bool Zq]⟩]) (λr2 r3=>c_ (.tup [.agg [.slw 0,vwi p_0,vwi p_1,.rof r2],vwi r3]) [⟨36,1,.flts b⟩,⟨36,1,.flts Zl⟩,⟨100,1,.cells [.bool Zq]⟩])) N_ (Mv N_)
def UQ (N_:Nat):LT:=ad (UP N_) 99 ⟨[.agg [.rof,.int .i64,.int .i64,.rof],.agg [.int .i64,.int .i64,.rof],.agg [.int .i64,.int .i64,.rof]],[]⟩ [.fs,.i,.i,.fs,.i,.i,.fs,.i,.i,.fs] (λS_ c_ t_0 t_1 t_2 t_3 ZW ZZ Z1 q_0 q_1 q_2=>S_ t_0 t_1 t_2 t_3 ZW ZZ Z1 q_0 q_1 q_2 (λr0 r1 r2 r3 r4=>c_ (.tup [.agg [.rof r0,vwi r1,vwi r2,.rof r3],vwi r4]) [])) N_ (MM N_)
def UR (N_:Nat):LT:=upM Pg km N_ fmd (UQ N_) [23,77,148]
def US (N_:Nat):LT:=ad (UR N_) 93 ⟨[.agg [.rof,.int .i64,.int .i64,.rof]],[]⟩ [.fs,.i,.i,.fs] (λS_ c_ s_0 ZU Z9 s_3=>S_ s_0 ZU Z9 s_3 (λr0=>c_ (vwi r0) [])) N_ (nM N_)
def UT (N_:Nat):LT:=ad (US N_) 92 ⟨[.ptr 0 0,.slw 1,.agg [.int .i64,.int .i64,.rof]],[some (107,1,.cells [.bool]),some (36,1,.flts)]⟩ [.i,.i,.fs,.b,.fs] (λS_ c_ y_0 ZS y_2 b Zl=>S_ y_0 ZS y_2 b Zl (λr0 r1 r2=>c_ (.tup [.agg [vwi r0,vwi r1,.nil,.nil],vwi r2]) [⟨107,1,.cells [.bool b]⟩,⟨36,1,.flts Zl⟩]) (λr3=>c_ (.tup [.agg [vwi y_0,vwi ZS,.rof y_2,.slw 1],vwi r3]) [⟨107,1,.cells [.bool b]⟩,⟨36,1,.flts Zl⟩])) N_ (j8 N_)
def UU (N_:Nat):LT:=ad (UT N_) 32 ⟨[.agg [.rof,.int .i64,.int .i64,.rof]],[]⟩ [.fs,.i,.i,.fs] (λS_ c_ s_0 ZU Z9 s_3=>S_ s_0 ZU Z9 s_3 (λr0 r1 r2 r3 r4=>c_ (.tup [.agg [vwi r0,vwi r1,.rof r2,.rof r3],vwi r4]) [])) N_ (tO N_)
def UV (N_:Nat):LT:=ad (UU N_) 25 ⟨[.agg [.int .i64,.int .i64,.rof,.rof]],[]⟩ [.i,.i,.fs,.fs] (λS_ c_ ZD Zu ZH Z6=>S_ ZD Zu ZH Z6 (λr0=>c_ (vwi r0) [])) N_ (p_ N_)
def UW (N_:Nat):LT:=ad (UV N_) 28 ⟨[.agg [.int .i64,.int .i64,.rof,.rof]],[]⟩ [.i,.i,.fs,.fs] (λS_ c_ ZD Zu ZH Z6=>S_ ZD Zu ZH Z6 (λr0 r1 r2 r3 r4=>c_ (.tup [.agg [.rof r0,vwi r1,vwi r2,.rof r3],vwi r4]) [])) N_ (qa N_)
def UX (N_:Nat):LT:=ad (UW N_) 160 ⟨[.ptr 0 0,.slw 1,.agg [.int .i64,.int .i64,.slw 2]],[some (107,1,.cells [.bool]),some (36,1,.flts),some (36,1,.flts)]⟩ [.i,.i,.b,.fs,.fs] (λS_ c_ p_0 p_1 b Zl Zq=>S_ p_0 p_1 b Zl Zq (λr0 r1 r2=>c_ (.tup [.agg [.nil,vwi r0,vwi r1,.nil],vwi r2]) [⟨107,1,.cells [.bool b]⟩,⟨36,1,.flts Zl⟩,⟨36,1,.flts Zq⟩]) (λr2=>c_ (.tup [.agg [.slw 1,vwi p_0,vwi p_1,.slw 2],vwi r2]) [⟨107,1,.cells [.bool b]⟩,⟨36,1,.flts Zl⟩,⟨36,1,.flts Zq⟩])) N_ (f8 N_)
def UY (N_:Nat):LT:=ad (UX N_) 98 ⟨[.agg [.rof,.int .i64,.int .i64,.rof],.agg [.int .i64,.int .i64,.rof],.agg [.int .i64,.int .i64,.rof]],[]⟩ [.fs,.i,.i,.fs,.i,.i,.fs,.i,.i,.fs] (λS_ c_ s_0 ZU Z9 s_3 ZW ZZ Z1 q_0 q_1 q_2=>S_ s_0 ZU Z9 s_3 ZW ZZ Z1 q_0 q_1 q_2 (λr0 r1 r2 r3 r4=>c_ (.tup [.agg [.rof r0,vwi r1,vwi r2,.rof r3],vwi r4]) [])) N_ (lJ N_)
def UZ (N_:Nat):LT:=ad (UY N_) 34 ⟨[.agg [.int .i64,.int .i64,.rof,.rof],.agg [.int .i64,.int .i64,.rof],.agg [.int .i64,.int .i64,.rof]],[]⟩ [.i,.i,.fs,.fs,.i,.i,.fs,.i,.i,.fs] (λS_ c_ ZD Zu ZH Z6 ZW ZZ Z1 q_0 q_1 q_2=>S_ ZD Zu ZH Z6 ZW ZZ Z1 q_0 q_1 q_2 (λr0 r1 r2 r3 r4=>c_ (.tup [.agg [vwi r0,vwi r1,.rof r2,.rof r3],vwi r4]) [])) N_ (nL N_)
def U0 (N_:Nat):LT:=ad (UZ N_) 36 ⟨[.agg [.int .i64,.int .i64,.rof,.rof]],[]⟩ [.i,.i,.fs,.fs] (λS_ c_ ZD Zu ZH Z6=>S_ ZD Zu ZH Z6 (λr0 r1 r2 r3 r4=>c_ (.tup [.agg [.rof r0,vwi r1,vwi r2,.rof r3],vwi r4]) [])) N_ (MU N_)
def U2 (N_:Nat):LT:=ad (U0 N_) 35 ⟨[.agg [.int .i64,.int .i64,.rof,.rof],.agg [.int .i64,.int .i64,.rof],.agg [.int .i64,.int .i64,.rof]],[]⟩ [.i,.i,.fs,.fs,.i,.i,.fs,.i,.i,.fs] (λS_ c_ ZD Zu ZH Z6 ZW ZZ Z1 q_0 q_1 q_2=>S_ ZD Zu ZH Z6 ZW ZZ Z1 q_0 q_1 q_2 (λr0 r1 r2 r3 r4=>c_ (.tup [.agg [vwi r0,vwi r1,.rof r2,.rof r3],vwi r4]) [])) N_ (MO N_)
def Pw:FnSh:=⟨[.roi .u64,.int .i64,.roi .u64,.roi .u64,.roi .u64],[]⟩
end
theorem NT (w:World) (v:Value):Calls Tryz.prog 181 #[.nilIface,v] w λe w'=>e=.returned v/\w'=w:=
 Qa (P:=Tryz.prog) (fc:=181) (fn:=Tryz.f181) (by kernel_rfl) (by kernel_rfl) (by kernel_rfl) rfl rfl rfl rfl rfl rfl rfl rfl rfl rfl rfl rfl rfl rfl rfl rfl rfl rfl rfl (λ_=>rfl) (λ_=>by kernel_rfl) w v
theorem R4:uC Tryz.prog 180:=
 NJ (P:=Tryz.prog) (g:=180) (fc:=181) (fg:=Tryz.f180) (ff:=Tryz.f181) (by kernel_rfl) (by kernel_rfl) (by kernel_rfl) (by kernel_rfl) rfl (by kernel_rfl) (by kernel_rfl) (by kernel_rfl) (by kernel_rfl) (by kernel_rfl) rfl rfl rfl rfl rfl rfl rfl rfl rfl rfl rfl (by kernel_rfl) (by kernel_rfl) NT
theorem hD_:HD Tryz.prog km:=by
 intro g hg h;have e:g=180:=by have h:=F4 h; simp at h; omega
 rcases e with rfl
 exact R4
end Go.Proofs.YtdinakfmablagaaGreatDoor
end
