/- The program's functions and their ties. Conditions: none. -/
import Derived.Test.YtdinakfmablagaaGreatDoorGp
import Derived.Test.YtdinakfmablagaaGreatDoorMachT
import Derived.Test.YtdinakfmablagaaGreatDoorProg
set_option linter.unusedVariables false
section
namespace Go.Proofs.YtdinakfmablagaaGreatDoor
open Go Go.Mach Go.Proofs
set_option maxRecDepth 50000
abbrev KV:=V->List Blk->Bool
abbrev SPT:=List Atom->KV->Bool
noncomputable abbrev Pg:Program:=Tryz.prog
def vqs:Nat → List V → List V
  | 0,t=>t
  | n+1,t=>.any::vqs n t
abbrev vwi (z:Int):V:=.int .i64 z
abbrev vwu (z:Int):V:=.int .u64 z
abbrev vwv (z:Int):V:=.int .u32 z
abbrev vwr (l:LI):V:=.roi .u64 l
abbrev vws (l:LI):V:=.roi .u32 l
theorem Xw {p:Nat → Prop} (h:p 0):∀ i,i<1 → p i
 | 0,_=>h
 | _+1,g=>by omega
theorem WE {p:Nat → Prop} (h:p 0) (h1:p 1):∀ i,i<2 → p i
 | 0,_=>h
 | 1,_=>h1
 | _+2,g=>by omega
def sqs:Nat → List Sh → List Sh
 | 0,t=>t
 | n+1,t=>.any::sqs n t
noncomputable def jh:Nat->Bool:=Po [134,206,171,78,140,83,84,79,105,89,132,133,144,141,139,80,194,28,26,41,32,30,102,150,94,100,103,106,165,164,104,36,39,42,33,40,152,88,151,199,50,32,30,10,20,12,21,16,15,92,91,57,54,286,259,305,316,17,109,97,96,160,157,156,90,204,228,201,203,226,227,242,216,269,245,217,183,265,312,306,254,283,284,1000318,1000209,1000207,2000180,3000090,3000048,3000047,4000230,4000187,4000061,6000185,6000188,12000184]
abbrev LT:=List (Nat × Fs)
abbrev TbS (A B:Nat->LT):Prop:=∀ N,OKL Pg jh (A N)->OKL Pg jh (B N)
noncomputable def fmd:Nat->Nat:=λg=>(cond (Po [8,79,80,120,139,171,202,219,237,238,239,240,241,251,252,259,260,261,268,274,275,296,302,312] g) 1 (cond (Po [243,246,247,270,271] g) 2 0))
noncomputable section
def L0 (N_:Nat):LT:=[]
def Wr:FnSh:=⟨[.fb],[]⟩
def S6 (adK:ND):SPT:=λa_ c_=>match a_ with
 | [.nat a0]=>adK a0 (λr0=>c_ (vwu r0) [])
 | _=>false
abbrev WF (adK:ND):Fs:=fe Wr (S6 adK)
def L1 (N_:Nat):LT:=(19,(WF (Ef N_)))::L0 N_
def Sa:FnSh:=⟨[.int .u64],[]⟩
def P8 (acZ:Hk):SPT:=λa_ c_=>match a_ with
 | [.int a0]=>acZ a0 (λr0=>c_ (.flt r0) [])
 | _=>false
abbrev MK (acZ:Hk):Fs:=fe Sa (P8 acZ)
def L2 (N_:Nat):LT:=(44,(MK (ze N_)))::L1 N_
def L3 (N_:Nat):LT:=ad (L2 N_) 9 ⟨[.roi .u64],[]⟩ [.is] (λS_ c_ l=>S_ l (λr0=>c_ (.rof r0) [])) N_ (vp N_)
def J7:FnSh:=⟨[.flt],[]⟩
def P7 (acY:Hj):SPT:=λa_ c_=>match a_ with
 | [.fl a0]=>acY a0 (λr0=>c_ (vwu r0) [])
 | _=>false
abbrev MJ (acY:Hj):Fs:=fe J7 (P7 acY)
def L4 (N_:Nat):LT:=(19,(D6 (MJ (zd N_)) (ofL (L3 N_) 19) J7))::L3 N_
def L5 (N_:Nat):LT:=ad (L4 N_) 285 ⟨[.int .u64],[]⟩ [.i] (λS_ c_ x=>S_ x (λr0=>c_ (vwi r0) [])) N_ (Qs N_)
def L6 (N_:Nat):LT:=ad (L5 N_) 286 ⟨[.slw 0],[some (23,1,.ints .u64)]⟩ [.is] (λS_ c_ b=>S_ b (λr0=>c_ (.sl 0 0 r0) [⟨23,1,.ints .u64 b⟩])) N_ (Tw N_)
def L7 (N_:Nat):LT:=ad (L6 N_) 262 ⟨[.roi .u64,.int .u64],[]⟩ [.is,.i] (λS_ c_ x n=>S_ x n (λr0=>c_ (vwr r0) [])) N_ (vj N_)
def L8 (N_:Nat):LT:=ad (L7 N_) 288 ⟨[.roi .u64,.roi .u64],[]⟩ [.is,.is] (λS_ c_ x y=>S_ x y (λr0=>c_ (vwi r0) [])) N_ (MZ N_)
def L9 (N_:Nat):LT:=ad (L8 N_) 311 ⟨[.int .u64],[]⟩ [.i] (λS_ c_ x=>S_ x (λr0=>c_ (vwi r0) [])) N_ (TQ N_)
def L10 (N_:Nat):LT:=ad (L9 N_) 298 ⟨[.roi .u64],[]⟩ [.is] (λS_ c_ x=>S_ x (λr0=>c_ (vwi r0) [])) N_ (qe N_)
def L11 (N_:Nat):LT:=ad (L10 N_) 299 ⟨[.int .u64,.int .u64],[]⟩ [.i,.i] (λS_ c_ x y=>S_ x y (λr0 r1 r2 r3 r4=>c_ (.agg [vwu r0,vwu r1,vwu r2,vwu r3,.bool r4]) [])) N_ (yv N_)
def L12 (N_:Nat):LT:=ad (L11 N_) 307 ⟨[.int .u64,.int .u64],[]⟩ [.i,.i] (λS_ c_ x y=>S_ x y (λr0 r1=>c_ (.tup [vwu r0,vwu r1]) [])) N_ (MT N_)
def XH:FnSh:=⟨[.int .u64,.int .u64,.int .u64],[]⟩
def XL (SQ3:Vs):SPT:=λa_ c_=>match a_ with
 | [.int a0,.int a1,.int a2]=>SQ3 a0 a1 a2 (λr0 r1=>c_ (.tup [vwu r0,vwu r1]) [])
 | _=>false
abbrev FQ3 (SQ3:Vs):Fs:=fe XH (XL SQ3)
def L13 (N_:Nat):LT:=(308,(FQ3 (sQ3 N_)))::L12 N_
def L14 (N_:Nat):LT:=ad (L13 N_) 290 ⟨[.int .u64,.int .u64,.int .u64,.int .u64],[]⟩ [.i,.i,.i,.i] (λS_ c_ a b c d=>S_ a b c d (λr0 r1=>c_ (.tup [vwu r0,vwu r1]) [])) N_ (vi N_)
def L15 (N_:Nat):LT:=ad (L14 N_) 314 ⟨[.roi .u64,.int .u64,.int .u64],[]⟩ [.is,.i,.i] (λS_ c_ x d more=>S_ x d more (λr0=>c_ (vwr r0) [])) N_ (M_ N_)
def XI:FnSh:=⟨[.int .u64,.int .u64,.int .u64],[]⟩
def XM (SQ5:Vt):SPT:=λa_ c_=>match a_ with
 | [.int a0,.int a1,.int a2]=>SQ5 a0 a1 a2 (λr0 r1=>c_ (.tup [vwu r0,vwu r1]) [])
 | _=>false
abbrev FQ5 (SQ5:Vt):Fs:=fe XI (XM SQ5)
def L16 (N_:Nat):LT:=(317,(FQ5 (sQ5 N_)))::L15 N_
def L17 (N_:Nat):LT:=ao (L16 N_) 286 ⟨[.sl 0],[some (23,1,.ints .u64)]⟩ [.n,.n,.is] (λS_ c_ Z6 ZQ b=>S_ Z6 ZQ b (λr1=>c_ (.sl 0 Z6 r1) [⟨23,1,.ints .u64 b⟩])) N_ (qf N_)
def L18 (N_:Nat):LT:=ad (L17 N_) 266 ⟨[.roi .u64,.roi .u64],[]⟩ [.is,.is] (λS_ c_ x y=>S_ x y (λr0=>c_ (vwr r0) [])) N_ (T0 N_)
def L19 (N_:Nat):LT:=ad (L18 N_) 242 ⟨[.agg [.int .i64,.int .i64,.slw 0],.int .i64,.int .i64],[some (249,1,.recs RT0)]⟩ [.i,.i,.i,.i,.r RT0] (λS_ c_ g_0 g_1 i j b=>S_ g_0 g_1 i j b (λr0 r1 r2 r3=>c_ (.agg [.rp [.bool r0,vwr r1,.bool r2,vwr r3] 0]) [⟨249,1,.recs RT0 b⟩])) N_ (fD N_)
def L20 (N_:Nat):LT:=ad (L19 N_) 293 ⟨[.rp [.bool,.roi .u64,.bool,.roi .u64] 0],[]⟩ [.b,.is,.b,.is] (λS_ c_ Z6 ZQ Z5 Z9=>S_ Z6 ZQ Z5 Z9 (λr0=>c_ (vwi r0) [])) N_ (Nm N_)
def S3:FnSh:=⟨[],[]⟩
def Wu (SQ0:Vr):SPT:=λa_ c_=>match a_ with
 | []=>SQ0 (λr0=>c_ (.bool r0) [])
 | _=>false
abbrev FQ0 (SQ0:Vr):Fs:=fe S3 (Wu SQ0)
def L21 (N_:Nat):LT:=(22,(FQ0 (sQ0 N_)))::L20 N_
def Sb:FnSh:=⟨[.flt],[]⟩
def P9 (ac0:Hl):SPT:=λa_ c_=>match a_ with
 | [.fl a0]=>ac0 a0 (λr0=>c_ (.flt r0) [])
 | _=>false
abbrev Si (ac0:Hl):Fs:=fe Sb (P9 ac0)
def L22 (N_:Nat):LT:=(110,(Si (J2 N_)))::L21 N_
def Mp:FnSh:=⟨[.flt],[]⟩
def BF (abU:z8):SPT:=λa_ c_=>match a_ with
 | [.fl x]=>abU x (λr0=>c_ (.flt r0) [])
 | _=>false
abbrev I4 (abU:z8):Fs:=fe Mp (BF abU)
def L23 (N_:Nat):LT:=(167,(I4 (xi N_)))::L22 N_
def P2:FnSh:=⟨[.fb],[]⟩
def Qa (adM:SA):SPT:=λa_ c_=>match a_ with
 | [.nat x]=>adM x (λr0=>c_ (.flt r0) [])
 | _=>false
abbrev Td (adM:SA):Fs:=fe P2 (Qa adM)
def L24 (N_:Nat):LT:=ad (L23 N_) 107 ⟨[.flt,.int .i64],[]⟩ [.f,.i] (λS_ c_ f sign=>S_ f sign (λr0=>c_ (.bool r0) [])) N_ (tP N_)
def L25 (N_:Nat):LT:=ad1 1 (L24 N_) 47 ⟨[.ptr 0 0,.flt],[some (107,1,.cells [.bool])]⟩ [.f,.b] (λS_ c_ x b=>S_ x b (λr1=>c_ (.flt x) (.bool r1))) N_ (Tm N_)
def L26 (N_:Nat):LT:=ad1 1 (L25 N_) 48 ⟨[.ptr 0 0,.flt,.flt],[some (107,1,.cells [.bool])]⟩ [.f,.f,.b] (λS_ c_ a b ZB=>S_ a b ZB (λr0 r1=>c_ (.flt r0) (.bool r1))) N_ (MN N_)
def L27 (N_:Nat):LT:=ad (L26 N_) 46 ⟨[.ptr 0 0,.int .i64,.int .i64,.ptr 1 0,.ptr 2 0],[some (107,1,.cells [.bool]),some (26,1,.cells [.rof]),some (36,1,.cells [.flt])]⟩ [.i,.i,.b,.fs,.f] (λS_ c_ i j b ZB ZH=>S_ i j b ZB ZH (λr0 r1=>c_ (.flt r0) [⟨107,1,.cells [.bool r1]⟩,⟨26,1,.cells [.rof ZB]⟩,⟨36,1,.cells [.flt ZH]⟩])) N_ (fA N_)
def L28 (N_:Nat):LT:=ad1 2 (L27 N_) 61 ⟨[.ptr 0 0],[some (107,1,.cells [.bool])]⟩ [.b] (λS_ c_ b=>S_ b (c_ (.bool b) (.any))) N_ (Kr N_)
def L29 (N_:Nat):LT:=ad (L28 N_) 191 ⟨[.int .i64,.int .i64,.int .i64],[]⟩ [.i,.i,.i] (λS_ c_ rows cols n=>S_ rows cols n (λr0=>c_ (vwi r0) [])) N_ (sb N_)
def L30 (N_:Nat):LT:=ad (L29 N_) 169 ⟨[.int .i64,.int .u64,.int .i64],[]⟩ [.i,.i,.i] (λS_ c_ exp frac most=>S_ exp frac most (λr0=>c_ (vwi r0) [])) N_ (Nq N_)
def L31 (N_:Nat):LT:=ad (L30 N_) 170 ⟨[.int .u64,.int .i64],[]⟩ [.i,.i] (λS_ c_ m e=>S_ m e (λr0 r1=>c_ (.tup [vwu r0,vwi r1]) [])) N_ (tR N_)
def L32 (N_:Nat):LT:=ad (L31 N_) 206 ⟨[.slw 0],[some (238,1,.ints .u32)]⟩ [.is] (λS_ c_ b=>S_ b (λr0=>c_ (.sl 0 0 r0) [⟨238,1,.ints .u32 b⟩])) N_ (Tq N_)
def L33 (N_:Nat):LT:=ad (L32 N_) 172 ⟨[.int .u64],[]⟩ [.i] (λS_ c_ n=>S_ n (λr0=>c_ (vws r0) [])) N_ (Nj N_)
def L34 (N_:Nat):LT:=ao (L33 N_) 206 ⟨[.roi .u32],[]⟩ [.is] (λS_ c_ m=>S_ m (λr0=>c_ (vws r0) [])) N_ (xA N_)
def L35 (N_:Nat):LT:=ad (L34 N_) 210 ⟨[.roi .u32,.int .u64],[]⟩ [.is,.i] (λS_ c_ m n=>S_ m n (λr0=>c_ (vws r0) [])) N_ (vn N_)
def L36 (N_:Nat):LT:=ad (L35 N_) 276 ⟨[.int .u32],[]⟩ [.i] (λS_ c_ x=>S_ x (λr0=>c_ (vwi r0) [])) N_ (GQ9 N_)
def L37 (N_:Nat):LT:=ad (L36 N_) 253 ⟨[.ptr 0 0],[some (158,1,.cells [.bool,.roi .u32])]⟩ [.b,.is] (λS_ c_ b ZB=>S_ b ZB (λr0=>c_ (vwu r0) [⟨158,1,.cells [.bool b,vws ZB]⟩])) N_ (GQ2 N_)
def L38 (N_:Nat):LT:=ad (L37 N_) 254 ⟨[.roi .u32,.int .u64],[]⟩ [.is,.i] (λS_ c_ m n=>S_ m n (λr0=>c_ (vws r0) [])) N_ (TR N_)
def L39 (N_:Nat):LT:=ad (L38 N_) 277 ⟨[.int .u32],[]⟩ [.i] (λS_ c_ x=>S_ x (λr0=>c_ (vwi r0) [])) N_ (M5 N_)
def L40 (N_:Nat):LT:=ad (L39 N_) 255 ⟨[.ptr 0 0],[some (158,1,.cells [.bool,.roi .u32])]⟩ [.b,.is] (λS_ c_ b ZB=>S_ b ZB (λr0=>c_ (vwi r0) [⟨158,1,.cells [.bool b,vws ZB]⟩])) N_ (TP N_)
def L41 (N_:Nat):LT:=ad (L40 N_) 208 ⟨[.roi .u32,.roi .u32],[]⟩ [.is,.is] (λS_ c_ a b=>S_ a b (λr0=>c_ (vwi r0) [])) N_ (TN N_)
def L42 (N_:Nat):LT:=ad (L41 N_) 279 ⟨[.roi .u32,.int .i64],[]⟩ [.is,.i] (λS_ c_ m at_=>S_ m at_ (λr0=>c_ (vwu r0) [])) N_ (vm N_)
def L43 (N_:Nat):LT:=ad (L42 N_) 278 ⟨[.int .u64,.int .u64],[]⟩ [.i,.i] (λS_ c_ x y=>S_ x y (λr0 r1 r2 r3=>c_ (.tup [vwi r0,vwi r1,vwi r2,vwi r3]) [])) N_ (rY N_)
def L44 (N_:Nat):LT:=ad (L43 N_) 281 ⟨[.roi .u32,.int .u32],[]⟩ [.is,.i] (λS_ c_ m d=>S_ m d (λr0 r1=>c_ (.tup [vws r0,vwv r1]) [])) N_ (rX N_)
def L45 (N_:Nat):LT:=ad (L44 N_) 283 ⟨[.sl 0,.sl 1,.int .i64,.int .u64],[some (238,1,.ints .u32),some (238,1,.ints .u32)]⟩ [.n,.n,.n,.n,.i,.i,.is,.is] (λS_ c_ u_0 u_1 d_0 d_1 j g b ZB=>S_ u_0 u_1 d_0 d_1 j g b ZB (λr0 r1=>c_ (.bool r0) [⟨238,1,.ints .u32 r1⟩,⟨238,1,.ints .u32 ZB⟩])) N_ (Nc N_)
def L46 (N_:Nat):LT:=ad (L45 N_) 284 ⟨[.sl 0,.sl 1,.int .i64],[some (238,1,.ints .u32),some (238,1,.ints .u32)]⟩ [.n,.n,.n,.n,.i,.is,.is] (λS_ c_ u_0 u_1 d_0 d_1 j b ZB=>S_ u_0 u_1 d_0 d_1 j b ZB (λr0=>c_ (.tup []) [⟨238,1,.ints .u32 r0⟩,⟨238,1,.ints .u32 ZB⟩])) N_ (Nd N_)
def L47 (N_:Nat):LT:=ao (L46 N_) 206 ⟨[.sl 0],[some (238,1,.ints .u32)]⟩ [.n,.n,.is] (λS_ c_ ZP ZE b=>S_ ZP ZE b (λr1=>c_ (.sl 0 ZP r1) [⟨238,1,.ints .u32 b⟩])) N_ (rV N_)
def L48 (N_:Nat):LT:=ao (L47 N_) 254 ⟨[.sl 0,.int .u64],[some (238,1,.ints .u32)]⟩ [.n,.n,.i,.is] (λS_ c_ ZP ZE n b=>S_ ZP ZE n b (λr0=>c_ (vws r0) [⟨238,1,.ints .u32 b⟩])) N_ (Nl N_)
def L49 (N_:Nat):LT:=ad (L48 N_) 175 ⟨[.roi .u32,.roi .u32],[]⟩ [.is,.is] (λS_ c_ a b=>S_ a b (λr0=>c_ (vws r0) [])) N_ (TK N_)
def L50 (N_:Nat):LT:=ad (L49 N_) 209 ⟨[.roi .u32,.roi .u32],[]⟩ [.is,.is] (λS_ c_ a b=>S_ a b (λr0=>c_ (vws r0) [])) N_ (rW N_)
def L51 (N_:Nat):LT:=ad (L50 N_) 297 ⟨[.roi .u32,.int .u64,.roi .u32,.int .u64],[]⟩ [.is,.i,.is,.i] (λS_ c_ a u b v=>S_ a u b v (λr0=>c_ (vws r0) [])) N_ (Np N_)
def L52 (N_:Nat):LT:=ad (L51 N_) 280 ⟨[.roi .u32,.int .i64,.roi .u32,.int .i64],[]⟩ [.is,.i,.is,.i] (λS_ c_ a u b v=>S_ a u b v (λr0=>c_ (vws r0) [])) N_ (tQ N_)
def L53 (N_:Nat):LT:=ad (L52 N_) 201 ⟨[.agg [.int .i64,.int .i64,.rl RT2],.int .i64,.int .i64],[]⟩ [.i,.i,.r RT2,.i,.i] (λS_ c_ ZP ZE ZK i j=>S_ ZP ZE ZK i j (λr0 r1 r2 r3=>c_ (.rp [.bool r0,vws r1,.bool r2,vws r3] 0) [])) N_ (MV N_)
def L54 (N_:Nat):LT:=ad (L53 N_) 250 ⟨[.ptr 0 0,.ptr 1 0],[some (158,1,.cells [.bool,.roi .u32]),some (158,1,.cells [.bool,.roi .u32])]⟩ [.b,.is,.b,.is] (λS_ c_ b ZB ZH ZW=>S_ b ZB ZH ZW (λr0=>c_ (vwi r0) [⟨158,1,.cells [.bool b,vws ZB]⟩,⟨158,1,.cells [.bool ZH,vws ZW]⟩])) N_ (Nh N_)
def L55 (N_:Nat):LT:=ad (L54 N_) 225 ⟨[.int .i64,.int .i64],[]⟩ [.i,.i] (λS_ c_ rows cols=>S_ rows cols (λr2=>c_ (.agg [vwi rows,vwi cols,.slw 0]) [⟨231,1,.own 235 RT1 r2 []⟩])) N_ (qm N_)
def L56 (N_:Nat):LT:=ao (L55 N_) 201 ⟨[.agg [.int .i64,.int .i64,.slw 0],.int .i64,.int .i64],[some (231,1,.own 235 RT1)]⟩ [.i,.i,.i,.i,.r RT1] (λS_ c_ ZP ZE i j b=>S_ ZP ZE i j b (λr0=>c_ (.opt 0 r0 0) [⟨231,1,.own 235 RT1 b []⟩])) N_ (Tl N_)
def L57 (N_:Nat):LT:=ad (L56 N_) 115 ⟨[.rp [.bool,.roi .u32,.bool,.roi .u32] 0],[]⟩ [.b,.is,.b,.is] (λS_ c_ z_0 z_1 z_2 z_3=>S_ z_0 z_1 z_2 z_3 (λr0=>c_ (vwi r0) [])) N_ (xB N_)
def L58 (N_:Nat):LT:=ad (L57 N_) 207 ⟨[.roi .u32,.roi .u32],[]⟩ [.is,.is] (λS_ c_ a b=>S_ a b (λr0=>c_ (vws r0) [])) N_ (vo N_)
def L59 (N_:Nat):LT:=ad (L58 N_) 221 ⟨[.roi .i64],[]⟩ [.is] (λS_ c_ l=>S_ l (λr0=>c_ (vwi r0) [])) N_ (MU N_)
def jE:FnSh:=⟨[.rof],[]⟩
def eo (ZU:cz):SPT:=λa_ c_=>match a_ with
 | [.fls s]=>ZU s (λr0=>c_ (.slw 0) [⟨36,1,.flts r0⟩])
 | _=>false
abbrev eC (ZU:cz):Fs:=fe jE (eo ZU)
def L60 (N_:Nat):LT:=(60,(eC (aO N_)))::L59 N_
def L61 (N_:Nat):LT:=ad (L60 N_) 62 ⟨[.agg [.flt,.flt],.ptr 0 0,.flt,.flt],[some (107,1,.cells [.bool])]⟩ [.f,.f,.f,.f,.b] (λS_ c_ r_0 r_1 a b ZB=>S_ r_0 r_1 a b ZB (λr0 r1 r2=>c_ (.tup [.flt r0,.flt r1]) [⟨107,1,.cells [.bool r2]⟩])) N_ (eD N_)
def L62 (N_:Nat):LT:=ad (L61 N_) 91 ⟨[.agg [.int .i64,.int .i64,.rof],.int .i64],[]⟩ [.i,.i,.fs,.i] (λS_ c_ ZP ZE ZK i=>S_ ZP ZE ZK i (λr0=>c_ (.rof r0) [])) N_ (vk N_)
def L63 (N_:Nat):LT:=ad1 1 (L62 N_) 90 ⟨[.ptr 0 0,.rof,.rof],[some (107,1,.cells [.bool])]⟩ [.fs,.fs,.b] (λS_ c_ a b ZB=>S_ a b ZB (λr0 r1=>c_ (.flt r0) (.bool r1))) N_ (Ni N_)
def L64 (N_:Nat):LT:=upM Pg jh N_ fmd (L63 N_) [54,53,197,224,222,220,56,202,282,252,171,192,49,11,135,131,59,128,129,130,269,244,268,296,241,302,304,312,237,261,259,260,214,124,121,8,232,233,231,178]
def L65 (N_:Nat):LT:=ad (L64 N_) 212 ⟨[.int .u64,.agg [.int .u64,.int .i64,.int .i64]],[]⟩ [.i,.i,.i,.i] (λS_ c_ b f_0 f_1 f_2=>S_ b f_0 f_1 f_2 (λr0=>c_ (.bool r0) [])) N_ (MY N_)
def L66 (N_:Nat):LT:=ad (L65 N_) 213 ⟨[.agg [.int .u64,.int .i64,.int .i64]],[]⟩ [.i,.i,.i] (λS_ c_ f_0 f_1 f_2=>S_ f_0 f_1 f_2 (λr0=>c_ (vwu r0) [])) N_ (xz N_)
def L67 (N_:Nat):LT:=ad (L66 N_) 235 ⟨[.ptr 0 0,.int .u64],[some (264,1,.cells [.bool,.nil])]⟩ [.i,.b] (λS_ c_ n b=>S_ n b (λr0 r1=>c_ (.ptr 0 0) [⟨264,1,.cells [.bool r0,vwr r1]⟩])) N_ (Tk N_)
def L68 (N_:Nat):LT:=ad (L67 N_) 236 ⟨[.ptr 0 0,.ptr 0 0],[some (264,1,.cells [.bool,.roi .u64])]⟩ [.b,.is] (λS_ c_ b ZB=>S_ b ZB (λr0 r1=>c_ (.ptr 0 0) [⟨264,1,.cells [.bool r0,vwr r1]⟩])) N_ (Tz N_)
def L69 (N_:Nat):LT:=ad (L68 N_) 263 ⟨[.ptr 0 0,.int .i64],[some (264,1,.cells [.bool,.nil])]⟩ [.i,.b] (λS_ c_ n b=>S_ n b (λr0 r1=>c_ (.ptr 0 0) [⟨264,1,.cells [.bool r0,vwr r1]⟩])) N_ (TF N_)
def L70 (N_:Nat):LT:=ad (L69 N_) 300 ⟨[.roi .u64,.int .i64],[]⟩ [.is,.i] (λS_ c_ x from_=>S_ x from_ (λr0=>c_ (vwu r0) [])) N_ (xy N_)
def L71 (N_:Nat):LT:=ad (L70 N_) 313 ⟨[.roi .u64,.roi .u64],[]⟩ [.is,.is] (λS_ c_ x y=>S_ x y (λr0=>c_ (vwr r0) [])) N_ (Nk N_)
def L72 (N_:Nat):LT:=ad (L71 N_) 301 ⟨[.agg [.int .u64,.int .u64,.int .u64,.int .u64,.bool],.roi .u64,.roi .u64],[]⟩ [.i,.i,.i,.i,.b,.is,.is] (λS_ c_ w_0 w_1 w_2 w_3 w_4 x y=>S_ w_0 w_1 w_2 w_3 w_4 x y (λr0 r1=>c_ (.tup [vwr r0,vwr r1]) [])) N_ (eJ N_)
def L73 (N_:Nat):LT:=ad (L72 N_) 315 ⟨[.int .u64,.int .u64,.int .u64],[]⟩ [.i,.i,.i] (λS_ c_ hi lo y=>S_ hi lo y (λr0 r1=>c_ (.tup [vwu r0,vwu r1]) [])) N_ (MS N_)
def L74 (N_:Nat):LT:=ad (L73 N_) 303 ⟨[.roi .u64,.int .u64],[]⟩ [.is,.i] (λS_ c_ x d=>S_ x d (λr0 r1=>c_ (.tup [vwr r0,vwu r1]) [])) N_ (rO N_)
def L75 (N_:Nat):LT:=ad (L74 N_) 316 ⟨[.sl 0,.roi .u64],[some (23,1,.ints .u64)]⟩ [.n,.n,.is,.is] (λS_ c_ u_0 u_1 v b=>S_ u_0 u_1 v b (λr0=>c_ (vwu r0) [⟨23,1,.ints .u64 b⟩])) N_ (uK N_)
def L76 (N_:Nat):LT:=ad (L75 N_) 305 ⟨[.sl 0,.roi .u64],[some (23,1,.ints .u64)]⟩ [.n,.n,.is,.is] (λS_ c_ u_0 u_1 v b=>S_ u_0 u_1 v b (λr0 r1=>c_ (vwu r0) [⟨23,1,.ints .u64 r1⟩])) N_ (wr N_)
def L77 (N_:Nat):LT:=ao (L76 N_) 316 ⟨[.sl 0,.sl 1],[some (23,1,.ints .u64),some (23,1,.ints .u64)]⟩ [.n,.n,.n,.n,.is,.is] (λS_ c_ u_0 u_1 v_0 v_1 b ZB=>S_ u_0 u_1 v_0 v_1 b ZB (λr0=>c_ (vwu r0) [⟨23,1,.ints .u64 b⟩,⟨23,1,.ints .u64 ZB⟩])) N_ (Qx N_)
def L78 (N_:Nat):LT:=ao (L77 N_) 305 ⟨[.sl 0,.sl 1],[some (23,1,.ints .u64),some (23,1,.ints .u64)]⟩ [.n,.n,.n,.n,.is,.is] (λS_ c_ u_0 u_1 v_0 v_1 b ZB=>S_ u_0 u_1 v_0 v_1 b ZB (λr0 r1=>c_ (vwu r0) [⟨23,1,.ints .u64 r1⟩,⟨23,1,.ints .u64 ZB⟩])) N_ (Na N_)
def L79 (N_:Nat):LT:=ad (L78 N_) 306 ⟨[.sl 0,.int .u64],[some (23,1,.ints .u64)]⟩ [.n,.n,.i,.is] (λS_ c_ Z6 ZQ n b=>S_ Z6 ZQ n b (λr0 r1=>c_ (.tup [vwr r0,.bool r1]) [⟨23,1,.ints .u64 b⟩])) N_ (I6 N_)
def M80 (N_:Nat):LT:=ad (L79 N_) 262 ⟨[.roi .u64,.int .u64],[]⟩ [.is,.i] (λS_ c_ x n=>S_ x n (c_ (.nil) []) (λr0 r1=>c_ (.sl 0 0 r0) [⟨23,1,.ints .u64 r1⟩])) N_ (T1 N_)
def L80 (N_:Nat):LT:=ad (L79 N_) 289 ⟨[.roi .u64,.roi .u64],[]⟩ [.is,.is] (λS_ c_ x y=>S_ x y (λr0 r1=>c_ (.tup [vwr r0,vwr r1]) [])) N_ (Nr N_)
def L81 (N_:Nat):LT:=ad (L80 N_) 287 ⟨[.roi .u64,.roi .u64],[]⟩ [.is,.is] (λS_ c_ x y=>S_ x y (λr0=>c_ (vwr r0) [])) N_ (TB N_)
def L82 (N_:Nat):LT:=ad (L81 N_) 264 ⟨[.ptr 0 0,.bool,.roi .u64,.roi .u64],[some (270,1,.cells [.bool,.nil,.bool,.nil])]⟩ [.b,.is,.is,.b,.b] (λS_ c_ neg a b ZB ZH=>S_ neg a b ZB ZH (λr0 r1 r2 r3=>c_ (.ptr 0 0) [⟨270,1,.cells [.bool r0,vwr r1,.bool r2,vwr r3]⟩])) N_ (TL N_)
def L83 (N_:Nat):LT:=ad (L82 N_) 265 ⟨[.ptr 0 0,.bool,.roi .u64,.slw 1],[some (270,1,.cells [.bool,.nil,.bool,.nil]),some (23,1,.ints .u64)]⟩ [.b,.is,.b,.b,.is] (λS_ c_ neg a b ZB ZH=>S_ neg a b ZB ZH (λr0 r2=>c_ (.ptr 0 0) [⟨270,1,.cells [.bool r0,vwr a,.bool r2,.slw 1]⟩,⟨23,1,.ints .u64 ZH⟩])) N_ (TS N_)
def L84 (N_:Nat):LT:=ao (L83 N_) 265 ⟨[.ptr 0 0,.bool,.roi .u64,.roi .u64],[some (270,1,.cells [.bool,.nil,.bool,.nil])]⟩ [.b,.is,.is,.b,.b] (λS_ c_ neg a b ZB ZH=>S_ neg a b ZB ZH (λr0 r2=>c_ (.ptr 0 0) [⟨270,1,.cells [.bool r0,vwr a,.bool r2,vwr b]⟩])) N_ (Ts N_)
def L85 (N_:Nat):LT:=ad (L84 N_) 292 ⟨[.ptr 0 0,.rp [.bool,.roi .u64,.bool,.roi .u64] 0],[some (270,1,.cells [.bool,.nil,.bool,.nil])]⟩ [.b,.is,.b,.is,.b,.b] (λS_ c_ Z6 ZQ Z5 Z9 b ZB=>S_ Z6 ZQ Z5 Z9 b ZB (λr0 r1 r2 r3=>c_ (.ptr 0 0) [⟨270,1,.cells [.bool r0,vwr r1,.bool r2,vwr r3]⟩])) N_ (TW N_)
def L86 (N_:Nat):LT:=ad (L85 N_) 309 ⟨[.roi .u64,.roi .u64],[]⟩ [.is,.is] (λS_ c_ x y=>S_ x y (λr0=>c_ (vwr r0) [])) N_ (T2 N_)
def L87 (N_:Nat):LT:=ad (L86 N_) 318 ⟨[.roi .u64,.roi .u64],[]⟩ [.is,.is] (λS_ c_ x y=>S_ x y (λr0=>c_ (vwr r0) [])) N_ (xx N_)
def L88 (N_:Nat):LT:=ad (L87 N_) 310 ⟨[.ptr 0 0,.ptr 0 0,.bool,.roi .u64],[some (264,1,.cells [.bool,.roi .u64])]⟩ [.b,.is,.b,.is] (λS_ c_ neg y b ZB=>S_ neg y b ZB (λr0 r1=>c_ (.ptr 0 0) [⟨264,1,.cells [.bool r0,vwr r1]⟩])) N_ (Tv N_)
def L89 (N_:Nat):LT:=ad (L88 N_) 291 ⟨[.ptr 0 0,.rp [.bool,.roi .u64,.bool,.roi .u64] 0,.ptr 1 0],[some (270,1,.cells [.bool,.nil,.bool,.nil]),some (270,1,.cells [.bool,.roi .u64,.bool,.roi .u64])]⟩ [.b,.is,.b,.is,.b,.b,.b,.is,.b,.is] (λS_ c_ Z6 ZQ Z5 Z9 b ZB ZH ZW Z7 b_5=>S_ Z6 ZQ Z5 Z9 b ZB ZH ZW Z7 b_5 (λr0 r1 r2 r3=>c_ (.ptr 0 0) [⟨270,1,.cells [.bool r0,vwr r1,.bool r2,vwr r3]⟩,⟨270,1,.cells [.bool ZH,vwr ZW,.bool Z7,vwr b_5]⟩])) N_ (Tt N_)
def L90 (N_:Nat):LT:=ad (L89 N_) 267 ⟨[.ptr 0 0,.rp [.bool,.roi .u64,.bool,.roi .u64] 0,.rp [.bool,.roi .u64,.bool,.roi .u64] 0],[some (270,1,.cells [.bool,.nil,.bool,.nil])]⟩ [.b,.is,.b,.is,.b,.is,.b,.is,.b,.b] (λS_ c_ Z6 ZQ Z5 Z9 y_0 Z3 y_2 y_3 b ZB=>S_ Z6 ZQ Z5 Z9 y_0 Z3 y_2 y_3 b ZB (λr0 r1 r2 r3=>c_ (.ptr 0 0) [⟨270,1,.cells [.bool r0,vwr r1,.bool r2,vwr r3]⟩])) N_ (MQ N_)
def L91 (N_:Nat):LT:=ad (L90 N_) 295 ⟨[.ptr 0 0,.bool,.roi .u64,.roi .u64,.roi .u64,.roi .u64],[some (270,1,.cells [.bool,.nil,.bool,.nil])]⟩ [.b,.is,.is,.is,.is,.b,.b] (λS_ c_ neg a b c d ZB ZH=>S_ neg a b c d ZB ZH (λr0 r1 r2 r3=>c_ (.ptr 0 0) [⟨270,1,.cells [.bool r0,vwr r1,.bool r2,vwr r3]⟩])) N_ (To N_)
def L92 (N_:Nat):LT:=ad (L91 N_) 273 ⟨[.ptr 0 0,.rp [.bool,.roi .u64,.bool,.roi .u64] 0,.rp [.bool,.roi .u64,.bool,.roi .u64] 0],[some (270,1,.cells [.bool,.nil,.bool,.nil])]⟩ [.b,.is,.b,.is,.b,.is,.b,.is,.b,.b] (λS_ c_ Z6 ZQ Z5 Z9 y_0 Z3 y_2 y_3 b ZB=>S_ Z6 ZQ Z5 Z9 y_0 Z3 y_2 y_3 b ZB (λr0 r1 r2 r3=>c_ (.ptr 0 0) [⟨270,1,.cells [.bool r0,vwr r1,.bool r2,vwr r3]⟩])) N_ (MP N_)
def L93 (N_:Nat):LT:=ad (L92 N_) 294 ⟨[.ptr 0 0,.rp [.bool,.roi .u64,.bool,.roi .u64] 0,.rp [.bool,.roi .u64,.bool,.roi .u64] 0],[some (270,1,.cells [.bool,.nil,.bool,.nil])]⟩ [.b,.is,.b,.is,.b,.is,.b,.is,.b,.b] (λS_ c_ Z6 ZQ Z5 Z9 y_0 Z3 y_2 y_3 b ZB=>S_ Z6 ZQ Z5 Z9 y_0 Z3 y_2 y_3 b ZB (λr0 r1 r2 r3=>c_ (.ptr 0 0) [⟨270,1,.cells [.bool r0,vwr r1,.bool r2,vwr r3]⟩])) N_ (MO N_)
def L94 (N_:Nat):LT:=ao (L93 N_) 291 ⟨[.ptr 0 0,.rp [.bool,.roi .u64,.bool,.roi .u64] 0,.rp [.bool,.roi .u64,.bool,.roi .u64] 0],[some (270,1,.cells [.bool,.nil,.bool,.nil])]⟩ [.b,.is,.b,.is,.b,.is,.b,.is,.b,.b] (λS_ c_ Z6 ZQ Z5 Z9 y_0 Z3 y_2 y_3 b ZB=>S_ Z6 ZQ Z5 Z9 y_0 Z3 y_2 y_3 b ZB (λr0 r1 r2 r3=>c_ (.ptr 0 0) [⟨270,1,.cells [.bool r0,vwr r1,.bool r2,vwr r3]⟩])) N_ (Qv N_)
def L95 (N_:Nat):LT:=ad1 2 (L94 N_) 187 ⟨[.flt,.ptr 0 0],[some (171,1,.cells [.ptr 1 0]),some (173,1,.cells [.bool])]⟩ [.f,.b] (λS_ c_ d b=>S_ d b (λr0 r1=>c_ (.tup [.flt r0,vwi r1]) (.any))) N_ (e9 N_)
def L96 (N_:Nat):LT:=ad (L95 N_) 134 ⟨[.int .i64,.int .i64,.fn 135 [.ptr 0 0]],[some (28,1,.cells [.int .i64,.int .i64,.rof])]⟩ [.i,.i,.i,.i,.fs] (λS_ c_ rows cols b ZB ZH=>S_ rows cols b ZB ZH (λr5=>c_ (.agg [vwi rows,vwi cols,.slw 1]) [⟨28,1,.cells [vwi b,vwi ZB,.rof ZH]⟩,⟨36,1,.flts r5⟩])) N_ (M0 N_)
def L97 (N_:Nat):LT:=ad (L96 N_) 168 ⟨[.flt],[]⟩ [.f] (λS_ c_ x=>S_ x (λr0 r1 r2=>c_ (.tup [.bool r0,vwi r1,vwu r2]) [])) N_ (r_ N_)
def L98 (N_:Nat):LT:=ad (L97 N_) 112 ⟨[.flt],[]⟩ [.f] (λS_ c_ x=>S_ x (λr0 r1 r2 r3=>c_ (.tup [.agg [.bool r0,vwu r1,vwi r2],vwi r3]) [])) N_ (rZ N_)
def L99 (N_:Nat):LT:=ad (L98 N_) 113 ⟨[.ptr 0 0,.int .u64],[some (158,1,.cells [.bool,.nil])]⟩ [.i,.b] (λS_ c_ n b=>S_ n b (λr0 r1=>c_ (.ptr 0 0) [⟨158,1,.cells [.bool r0,vws r1]⟩])) N_ (TJ N_)
def T4 (N_:Nat):LT:=ad (L99 N_) 114 ⟨[.ptr 0 0,.ptr 0 0],[some (158,1,.cells [.bool,.roi .u32])]⟩ [.b,.is] (λS_ c_ b ZB=>S_ b ZB (λr0 r1=>c_ (.ptr 0 0) [⟨158,1,.cells [.bool r0,vws r1]⟩])) N_ (Nf N_)
def T5 (N_:Nat):LT:=ad (T4 N_) 66 ⟨[.flt],[]⟩ [.f] (λS_ c_ x=>S_ x (λr0 r1 r2=>c_ (.agg [.ptr 0 0,vwi r0]) [⟨158,1,.cells [.bool r1,vws r2]⟩])) N_ (zW N_)
def Ny (N_:Nat):LT:=ad (T5 N_) 174 ⟨[.ptr 0 0,.ptr 1 0,.int .u64],[some (158,1,.cells [.bool,.nil]),some (158,1,.cells [.bool,.roi .u32])]⟩ [.i,.b,.b,.is] (λS_ c_ n b ZB ZH=>S_ n b ZB ZH (λr0 r1=>c_ (.ptr 0 0) [⟨158,1,.cells [.bool r0,vws r1]⟩,⟨158,1,.cells [.bool ZB,vws ZH]⟩])) N_ (MX N_)
def XT (N_:Nat):LT:=ad (Ny N_) 210 ⟨[.roi .u32,.int .u64],[]⟩ [.is,.i] (λS_ c_ m n=>S_ m n (c_ (.nil) []) (λr0 r1=>c_ (.sl 0 0 r0) [⟨238,1,.ints .u32 r1⟩])) N_ (T3 N_)
def T6 (N_:Nat):LT:=ad (Ny N_) 257 ⟨[.roi .u32,.roi .u32],[]⟩ [.is,.is] (λS_ c_ a b=>S_ a b (λr0 r1=>c_ (.tup [vws r0,vws r1]) [])) N_ (Nt N_)
def T7 (N_:Nat):LT:=ad (T6 N_) 256 ⟨[.roi .u32,.roi .u32],[]⟩ [.is,.is] (λS_ c_ a b=>S_ a b (λr0=>c_ (vws r0) [])) N_ (Ng N_)
def T8 (N_:Nat):LT:=ad (T7 N_) 229 ⟨[.ptr 0 0,.bool,.roi .u32,.roi .u32],[some (235,1,.cells [.bool,.nil,.bool,.nil])]⟩ [.b,.is,.is,.b,.b] (λS_ c_ neg a b ZB ZH=>S_ neg a b ZB ZH (λr0 r1 r2 r3=>c_ (.ptr 0 0) [⟨235,1,.cells [.bool r0,vws r1,.bool r2,vws r3]⟩])) N_ (Tn N_)
def T9 (N_:Nat):LT:=ad (T8 N_) 176 ⟨[.ptr 0 0,.int .i64],[some (158,1,.cells [.bool,.nil])]⟩ [.i,.b] (λS_ c_ n b=>S_ n b (λr0 r1=>c_ (.ptr 0 0) [⟨158,1,.cells [.bool r0,vws r1]⟩])) N_ (M4 N_)
def T_ (N_:Nat):LT:=ad1 2 (T9 N_) 230 ⟨[.rp [.bool,.roi .u32,.bool,.roi .u32] 0],[]⟩ [.b,.is,.b,.is] (λS_ c_ r_0 r_1 r_2 r_3=>S_ r_0 r_1 r_2 r_3 (λr0=>c_ (vws r0) (.any))) N_ (TO N_)
def Ua (N_:Nat):LT:=ad (T_ N_) 249 ⟨[.rp [.bool,.roi .u32,.bool,.roi .u32] 0,.rp [.bool,.roi .u32,.bool,.roi .u32] 0],[]⟩ [.b,.is,.b,.is,.b,.is,.b,.is] (λS_ c_ Z6 ZQ Z5 Z9 y_0 Z3 y_2 y_3=>S_ Z6 ZQ Z5 Z9 y_0 Z3 y_2 y_3 (λr1 r3=>c_ (.tup [.ptr 0 0,.ptr 1 0]) [⟨158,1,.cells [.bool Z6,vws r1]⟩,⟨158,1,.cells [.bool y_0,vws r3]⟩])) N_ (rU N_)
def Ub (N_:Nat):LT:=ad (Ua N_) 226 ⟨[.ptr 0 0,.rp [.bool,.roi .u32,.bool,.roi .u32] 0],[some (235,1,.cells [.bool,.roi .u32,.bool,.roi .u32])]⟩ [.b,.is,.b,.is,.b,.is,.b,.is] (λS_ c_ Z6 ZQ Z5 Z9 b ZB ZH ZW=>S_ Z6 ZQ Z5 Z9 b ZB ZH ZW (λr0 r1 r2 r3=>c_ (.ptr 0 0) [⟨235,1,.cells [.bool r0,vws r1,.bool r2,vws r3]⟩])) N_ (TY N_)
def Uc (N_:Nat):LT:=ad (Ub N_) 200 ⟨[.agg [.int .i64,.int .i64,.rl RT2]],[]⟩ [.i,.i,.r RT2] (λS_ c_ ZP ZE ZK=>S_ ZP ZE ZK (λr2=>c_ (.agg [vwi ZP,vwi ZE,.slw 0]) [⟨231,1,.own 235 RT1 r2 []⟩])) N_ (TX N_)
def Ud (N_:Nat):LT:=ao1 2 (Uc N_) 230 ⟨[.ptr 0 0],[some (235,1,.cells [.bool,.roi .u32,.bool,.roi .u32])]⟩ [.b,.is,.b,.is] (λS_ c_ b ZB ZH ZW=>S_ b ZB ZH ZW (λr0=>c_ (vws r0) (.any))) N_ (GQ6 N_)
def Uf (N_:Nat):LT:=ad (Ud N_) 204 ⟨[.ptr 0 0,.ptr 1 0,.ptr 2 0],[some (235,1,.cells [.bool,.nil,.bool,.nil]),some (235,1,.cells [.bool,.roi .u32,.bool,.roi .u32]),some (235,1,.cells [.bool,.roi .u32,.bool,.roi .u32])]⟩ [.b,.b,.b,.is,.b,.is,.b,.is,.b,.is] (λS_ c_ b ZB ZH ZW Z7 b_5 b_6 b_7 b_8 b_9=>S_ b ZB ZH ZW Z7 b_5 b_6 b_7 b_8 b_9 (λr0 r1 r2 r3=>c_ (.ptr 0 0) [⟨235,1,.cells [.bool r0,vws r1,.bool r2,vws r3]⟩,⟨235,1,.cells [.bool ZH,vws ZW,.bool Z7,vws b_5]⟩,⟨235,1,.cells [.bool b_6,vws b_7,.bool b_8,vws b_9]⟩])) N_ (Tj N_)
def Ug (N_:Nat):LT:=ad (Uf N_) 228 ⟨[.ptr 0 0,.ptr 1 0,.ptr 2 0],[some (235,1,.cells [.bool,.nil,.bool,.nil]),some (235,1,.cells [.bool,.roi .u32,.bool,.roi .u32]),some (235,1,.cells [.bool,.roi .u32,.bool,.roi .u32])]⟩ [.b,.b,.b,.is,.b,.is,.b,.is,.b,.is] (λS_ c_ b ZB ZH ZW Z7 b_5 b_6 b_7 b_8 b_9=>S_ b ZB ZH ZW Z7 b_5 b_6 b_7 b_8 b_9 (λr0 r1 r2 r3=>c_ (.ptr 0 0) [⟨235,1,.cells [.bool r0,vws r1,.bool r2,vws r3]⟩,⟨235,1,.cells [.bool ZH,vws ZW,.bool Z7,vws b_5]⟩,⟨235,1,.cells [.bool b_6,vws b_7,.bool b_8,vws b_9]⟩])) N_ (Ti N_)
def Uh (N_:Nat):LT:=ao (Ug N_) 249 ⟨[.ptr 0 0,.ptr 1 0],[some (235,1,.cells [.bool,.roi .u32,.bool,.roi .u32]),some (235,1,.cells [.bool,.roi .u32,.bool,.roi .u32])]⟩ [.b,.is,.b,.is,.b,.is,.b,.is] (λS_ c_ b ZB ZH ZW Z7 b_5 b_6 b_7=>S_ b ZB ZH ZW Z7 b_5 b_6 b_7 (λr9 r11=>c_ (.tup [.ptr 2 0,.ptr 3 0]) [⟨235,1,.cells [.bool b,vws ZB,.bool ZH,vws ZW]⟩,⟨235,1,.cells [.bool Z7,vws b_5,.bool b_6,vws b_7]⟩,⟨158,1,.cells [.bool b,vws r9]⟩,⟨158,1,.cells [.bool Z7,vws r11]⟩])) N_ (TT N_)
def Ui (N_:Nat):LT:=ad (Uh N_) 173 ⟨[.ptr 0 0,.ptr 1 0,.ptr 2 0,.bool],[some (158,1,.cells [.bool,.nil]),some (158,1,.cells [.bool,.roi .u32]),some (158,1,.cells [.bool,.roi .u32])]⟩ [.b,.b,.b,.is,.b,.is] (λS_ c_ turn b ZB ZH ZW Z7=>S_ turn b ZB ZH ZW Z7 (λr0 r1=>c_ (.ptr 0 0) [⟨158,1,.cells [.bool r0,vws r1]⟩,⟨158,1,.cells [.bool ZB,vws ZH]⟩,⟨158,1,.cells [.bool ZW,vws Z7]⟩])) N_ (TZ N_)
def Uj (N_:Nat):LT:=ao (Ui N_) 229 ⟨[.ptr 0 0,.bool,.roi .u32,.roi .u32],[some (235,1,.cells [.bool,.roi .u32,.bool,.roi .u32])]⟩ [.b,.is,.is,.b,.is,.b,.is] (λS_ c_ neg a b ZB ZH ZW Z7=>S_ neg a b ZB ZH ZW Z7 (λr0 r1 r2 r3=>c_ (.ptr 0 0) [⟨235,1,.cells [.bool r0,vws r1,.bool r2,vws r3]⟩])) N_ (TM N_)
def Uk (N_:Nat):LT:=ad (Uj N_) 138 ⟨[.flt,.flt],[]⟩ [.f,.f] (λS_ c_ a b=>S_ a b (λr0=>c_ (.bool r0) [])) N_ (vq N_)
def Ul (N_:Nat):LT:=ao (Uk N_) 134 ⟨[.int .i64,.int .i64,.fn 220 []],[]⟩ [.i,.i] (λS_ c_ rows cols=>S_ rows cols (λr2=>c_ (.agg [vwi rows,vwi cols,.slw 0]) [⟨36,1,.flts r2⟩])) N_ (M7 N_)
def Um (N_:Nat):LT:=ad (Ul N_) 223 ⟨[.agg [.int .i64,.int .i64,.rof],.int .i64],[]⟩ [.i,.i,.fs,.i] (λS_ c_ ZP ZE ZK j=>S_ ZP ZE ZK j (λr0=>c_ (.slw 0) [⟨36,1,.flts r0⟩])) N_ (qk N_)
def Un (N_:Nat):LT:=ao (Um N_) 134 ⟨[.int .i64,.int .i64,.fn 224 []],[]⟩ [.i,.i] (λS_ c_ rows cols=>S_ rows cols (λr2=>c_ (.agg [vwi rows,vwi cols,.slw 0]) [⟨36,1,.flts r2⟩])) N_ (Th N_)
def Uo (N_:Nat):LT:=ad (Un N_) 196 ⟨[.int .i64,.fn 197 [.ptr 0 0]],[some (28,1,.cells [.int .i64,.int .i64,.rof])]⟩ [.i,.i,.i,.fs] (λS_ c_ n b ZB ZH=>S_ n b ZB ZH (λr5=>c_ (.agg [vwi n,vwi n,.slw 1]) [⟨28,1,.cells [vwi b,vwi ZB,.rof ZH]⟩,⟨36,1,.flts r5⟩])) N_ (TC N_)
def Up (N_:Nat):LT:=ad (Uo N_) 88 ⟨[.agg [.int .i64,.int .i64,.rof]],[]⟩ [.i,.i,.fs] (λS_ c_ ZP ZE ZK=>S_ ZP ZE ZK (λr2=>c_ (.agg [vwi ZE,vwi ZP,.rof r2]) [])) N_ (vu N_)
def Uq (N_:Nat):LT:=upM Pg jh N_ fmd (Up N_) [139,193,251,219,275,120,274,117,52,108,270,271,247,243,240,239,238,179]
def Ur (N_:Nat):LT:=ad (Uq N_) 211 ⟨[.int .u64,.agg [.int .u64,.int .i64,.int .i64]],[]⟩ [.i,.i,.i,.i] (λS_ c_ b f_0 f_1 f_2=>S_ b f_0 f_1 f_2 (λr0 r1 r2=>c_ (.tup [.bool r0,vwi r1,vwu r2]) [])) N_ (TH N_)
def Nz (N_:Nat):LT:=ad (Ur N_) 177 ⟨[.int .u64,.agg [.int .u64,.int .i64,.int .i64]],[]⟩ [.i,.i,.i,.i] (λS_ c_ b f_0 f_1 f_2=>S_ b f_0 f_1 f_2 (λr0=>c_ (vwi r0) [])) N_ (TG N_)
def Ws:FnSh:=⟨[.flt],[]⟩
def P_ (adL:NE):SPT:=λa_ c_=>match a_ with
 | [.fl x]=>adL x (λr0=>c_ (vwi r0) [])
 | _=>false
abbrev WG (adL:NE):Fs:=fe Ws (P_ adL)
def Us (N_:Nat):LT:=(122,(WG (PU N_)))::Nz N_
def S4:FnSh:=⟨[.fb],[]⟩
def Wv (SQ7:W2):SPT:=λa_ c_=>match a_ with
 | [.nat x]=>SQ7 x (λr0=>c_ (vwi r0) [])
 | _=>false
abbrev FQ7 (SQ7:W2):Fs:=fe S4 (Wv SQ7)
def Ut (N_:Nat):LT:=ad (Us N_) 75 ⟨[.rof],[]⟩ [.fs] (λS_ c_ l=>S_ l (λr0=>c_ (.bool r0) [])) N_ (MR N_)
def NA (N_:Nat):LT:=ad (Ut N_) 74 ⟨[.agg [.int .i64,.int .i64,.rof]],[]⟩ [.i,.i,.fs] (λS_ c_ ZP ZE ZK=>S_ ZP ZE ZK (λr0=>c_ (vwi r0) [])) N_ (Qt N_)
def Wt:FnSh:=⟨[.flt,.flt],[]⟩
def Qb (adN:NF):SPT:=λa_ c_=>match a_ with
 | [.fl a,.fl b]=>adN a b (λr0=>c_ (.bool r0) [])
 | _=>false
abbrev WH (adN:NF):Fs:=fe Wt (Qb adN)
def Uu (N_:Nat):LT:=(123,(WH (IL N_)))::NA N_
def S5:FnSh:=⟨[.fb,.fb],[]⟩
def Ww (SQ8:W3):SPT:=λa_ c_=>match a_ with
 | [.nat a,.nat b]=>SQ8 a b (λr0=>c_ (.bool r0) [])
 | _=>false
abbrev FQ8 (SQ8:W3):Fs:=fe S5 (Ww SQ8)
def Uv (N_:Nat):LT:=ad (Uu N_) 76 ⟨[.agg [.int .i64,.int .i64,.rof]],[]⟩ [.i,.i,.fs] (λS_ c_ ZP ZE ZK=>S_ ZP ZE ZK (λr0=>c_ (.bool r0) [])) N_ (TI N_)
def Uw (N_:Nat):LT:=ad (Uv N_) 258 ⟨[.int .u64,.agg [.int .u64,.int .i64,.int .i64]],[]⟩ [.i,.i,.i,.i] (λS_ c_ b f_0 f_1 f_2=>S_ b f_0 f_1 f_2 (λr0 r1 r2 r3=>c_ (.tup [.agg [.bool r0,vwu r1,vwi r2],vwi r3]) [])) N_ (TV N_)
def Ux (N_:Nat):LT:=ad (Uw N_) 216 ⟨[.agg [.int .i64,.int .i64,.slw 0]],[some (249,1,.recs RT0)]⟩ [.i,.i,.r RT0] (λS_ c_ g_0 g_1 b=>S_ g_0 g_1 b (c_ (.tup []) [⟨249,1,.recs RT0 b⟩])) N_ (de N_)
def Uy (N_:Nat):LT:=ad (Ux N_) 272 ⟨[.int .i64,.int .i64],[]⟩ [.i,.i] (λS_ c_ a b=>S_ a b (λr0 r1 r2 r3=>c_ (.ptr 0 0) [⟨270,1,.cells [.bool r0,vwr r1,.bool r2,vwr r3]⟩])) N_ (qb N_)
def Uz (N_:Nat):LT:=ad (Uy N_) 245 ⟨[.agg [.int .i64,.int .i64,.slw 0],.int .i64,.int .i64,.agg [.rp [.bool,.roi .u64,.bool,.roi .u64] 0]],[some (249,1,.recs RT0)]⟩ [.i,.i,.i,.i,.b,.is,.b,.is,.r RT0] (λS_ c_ g_0 g_1 i k_ Z6 ZQ Z5 Z9 b=>S_ g_0 g_1 i k_ Z6 ZQ Z5 Z9 b (λr0=>c_ (.tup []) [⟨249,1,.recs RT0 r0⟩])) N_ (fC N_)
def UA (N_:Nat):LT:=ad (Uz N_) 142 ⟨[.agg [.int .i64,.int .i64,.rof]],[]⟩ [.i,.i,.fs] (λS_ c_ Z0 ZM ZV=>S_ Z0 ZM ZV (λr0=>c_ (vwi r0) [])) N_ (rR N_)
def UB (N_:Nat):LT:=ad (UA N_) 126 ⟨[.agg [.int .i64,.int .i64,.rof]],[]⟩ [.i,.i,.fs] (λS_ c_ Z0 ZM ZV=>S_ Z0 ZM ZV (λr0=>c_ (vwi r0) [])) N_ (pj N_)
def UC (N_:Nat):LT:=ad (UB N_) 198 ⟨[.agg [.int .i64,.int .i64,.rof]],[]⟩ [.i,.i,.fs] (λS_ c_ ZP ZE ZK=>S_ ZP ZE ZK (λr0=>c_ (.bool r0) [])) N_ (Nb N_)
def UD (N_:Nat):LT:=ad (UC N_) 145 ⟨[.agg [.int .i64,.int .i64,.rof]],[]⟩ [.i,.i,.fs] (λS_ c_ l_0 l_1 l_2=>S_ l_0 l_1 l_2 (λr0=>c_ (vwi r0) [])) N_ (mL N_)
def UE (N_:Nat):LT:=ad (UD N_) 143 ⟨[.int .i64,.rof],[]⟩ [.i,.fs] (λS_ c_ rows b=>S_ rows b (λr0=>c_ (vwi r0) [])) N_ (rS N_)
def UF (N_:Nat):LT:=ad (UE N_) 45 ⟨[.int .i64,.rof,.flt,.flt],[]⟩ [.i,.fs,.f,.f] (λS_ c_ n h r z=>S_ n h r z (λr0=>c_ (vwi r0) [])) N_ (rT N_)
def UG (N_:Nat):LT:=ad (UF N_) 86 ⟨[.rof],[]⟩ [.fs] (λS_ c_ l=>S_ l (λr0=>c_ (.bool r0) [])) N_ (MW N_)
def UH (N_:Nat):LT:=ad (UG N_) 137 ⟨[.agg [.int .i64,.int .i64,.rof]],[]⟩ [.i,.i,.fs] (λS_ c_ ZP ZE ZK=>S_ ZP ZE ZK (λr0=>c_ (vwi r0) [])) N_ (vt N_)
def UI (N_:Nat):LT:=ad (UH N_) 248 ⟨[.agg [.ptr 0 0,.int .i64]],[some (158,1,.cells [.bool,.roi .u32])]⟩ [.i,.b,.is] (λS_ c_ x b ZB=>S_ x b ZB (λr2 r3 r4 r5=>c_ (.ptr 1 0) [⟨158,1,.cells [.bool b,vws ZB]⟩,⟨235,1,.cells [.bool r2,vws r3,.bool r4,vws r5]⟩])) N_ (TU N_)
def UJ (N_:Nat):LT:=ad (UI N_) 190 ⟨[.agg [.int .i64,.int .i64,.rl RT2]],[]⟩ [.i,.i,.r RT2] (λS_ c_ ZP ZE ZK=>S_ ZP ZE ZK (λr0=>c_ (.bool r0) [])) N_ (Tx N_)
def UK (N_:Nat):LT:=ad (UJ N_) 227 ⟨[.ptr 0 0,.ptr 0 0,.ptr 1 0],[some (235,1,.cells [.bool,.roi .u32,.bool,.roi .u32]),some (235,1,.cells [.bool,.roi .u32,.bool,.roi .u32])]⟩ [.b,.is,.b,.is,.b,.is,.b,.is] (λS_ c_ b ZB ZH ZW Z7 b_5 b_6 b_7=>S_ b ZB ZH ZW Z7 b_5 b_6 b_7 (λr0 r1 r2 r3=>c_ (.ptr 0 0) [⟨235,1,.cells [.bool r0,vws r1,.bool r2,vws r3]⟩,⟨235,1,.cells [.bool Z7,vws b_5,.bool b_6,vws b_7]⟩])) N_ (Tp N_)
def UL (N_:Nat):LT:=ad (UK N_) 203 ⟨[.agg [.int .i64,.int .i64,.slw 0],.int .i64,.int .i64,.ptr 1 0],[some (231,1,.own 235 RT1),some (235,1,.cells [.bool,.roi .u32,.bool,.roi .u32])]⟩ [.i,.i,.i,.i,.r RT1,.b,.is,.b,.is] (λS_ c_ ZP ZE i k_ b ZB ZH ZW Z7=>S_ ZP ZE i k_ b ZB ZH ZW Z7 (λr0=>c_ (.tup []) [⟨231,1,.own 235 RT1 r0 []⟩,⟨235,1,.cells [.bool ZB,vws ZH,.bool ZW,vws Z7]⟩])) N_ (Tu N_)
def UM (N_:Nat):LT:=ad (UL N_) 154 ⟨[.agg [.int .i64,.int .i64,.rl RT2]],[]⟩ [.i,.i,.r RT2] (λS_ c_ ZP ZE ZK=>S_ ZP ZE ZK (λr0=>c_ (vwi r0) [])) N_ (M3 N_)
def UN (N_:Nat):LT:=ad (UM N_) 82 ⟨[.agg [.int .i64,.int .i64,.rof]],[]⟩ [.i,.i,.fs] (λS_ c_ ZP ZE ZK=>S_ ZP ZE ZK (λr0=>c_ (vwi r0) [])) N_ (TD N_)
def UO (N_:Nat):LT:=ad (UN N_) 194 ⟨[.agg [.int .i64,.int .i64,.rof],.int .i64],[]⟩ [.i,.i,.fs,.i] (λS_ c_ ZP ZE ZK j=>S_ ZP ZE ZK j (λr0 r1=>c_ (.tup [.rof r0,vwi r1]) [])) N_ (qj N_)
def UP (N_:Nat):LT:=ad (UO N_) 37 ⟨[.agg [.int .i64,.int .i64,.rof,.rof]],[]⟩ [.i,.i,.fs,.fs] (λS_ c_ Z0 ZM ZV ZY=>S_ Z0 ZM ZV ZY (λr0=>c_ (vwi r0) [])) N_ (lB N_)
def UQ (N_:Nat):LT:=ad (UP N_) 16 ⟨[.agg [.int .i64,.int .i64,.rof,.rof],.rof,.flt,.flt],[]⟩ [.i,.i,.fs,.fs,.fs,.f,.f] (λS_ c_ Z0 ZM ZV ZY h r z=>S_ Z0 ZM ZV ZY h r z (λr0 r1 r2 r3 r4 r5=>c_ (.tup [.agg [vwi r0,vwi r1,.rof r2,.rof r3],.flt r4,vwi r5]) [])) N_ (kd N_)
def UR (N_:Nat):LT:=ad (UQ N_) 87 ⟨[.agg [.int .i64,.int .i64,.rof]],[]⟩ [.i,.i,.fs] (λS_ c_ ZP ZE ZK=>S_ ZP ZE ZK (λr0=>c_ (vwi r0) [])) N_ (I5 N_)
def US (N_:Nat):LT:=upM Pg jh N_ fmd (UR N_) [85,195,218,80,186,147,146,246,234]
def UT (N_:Nat):LT:=ad (US N_) 215 ⟨[.flt],[]⟩ [.f] (λS_ c_ x=>S_ x (λr0 r1 r2 r3=>c_ (.agg [.rp [.bool r0,vwr r1,.bool r2,vwr r3] 0]) [])) N_ (jP N_)
def UU (N_:Nat):LT:=ad (UT N_) 182 ⟨[.agg [.int .i64,.int .i64,.rof]],[]⟩ [.i,.i,.fs] (λS_ c_ ZP ZE ZK=>S_ ZP ZE ZK (λr2=>c_ (.agg [vwi ZP,vwi ZE,.slw 0]) [⟨249,1,.recs RT0 r2⟩])) N_ (ji N_)
def UV (N_:Nat):LT:=ad (UU N_) 217 ⟨[.agg [.int .i64,.int .i64,.slw 0]],[some (249,1,.recs RT0)]⟩ [.i,.i,.r RT0] (λS_ c_ g_0 g_1 b=>S_ g_0 g_1 b (λr0 r1=>c_ (vwi r0) [⟨249,1,.recs RT0 r1⟩])) N_ (dB N_)
def UW (N_:Nat):LT:=ad1 4 (UV N_) 185 ⟨[.flt,.flt,.flt,.int .i64,.ptr 0 0],[some (171,1,.cells [.ptr 1 0]),some (173,1,.cells [.bool])]⟩ [.f,.f,.f,.i,.b] (λS_ c_ t a b v_ ZB=>S_ t a b v_ ZB (λr0 r1=>c_ (.flt r0) (.bool r1))) N_ (eZ N_)
def UX (N_:Nat):LT:=ad1 10 (UW N_) 184 ⟨[.int .i64,.int .i64,.ptr 0 0,.ptr 1 0,.ptr 2 0,.ptr 3 0],[some (176,1,.cells [.fn 128 [.ptr 4 0]]),some (26,1,.cells [.slw 5]),some (3,1,.cells [.int .i64]),some (180,1,.cells [.fn 185 [.ptr 6 0],.fn 187 [.ptr 6 0],.fn 188 [.ptr 6 0]]),some (28,1,.cells [.int .i64,.int .i64,.rof]),some (36,1,.flts),some (171,1,.cells [.ptr 7 0]),some (173,1,.cells [.bool])]⟩ [.i,.i,.i,.i,.i,.fs,.fs,.b] (λS_ c_ i j b ZB ZH ZW Z7 b_5=>S_ i j b ZB ZH ZW Z7 b_5 (λr0 r6=>c_ (.flt r0) (.bool r6))) N_ (bR N_)
def UY (N_:Nat):LT:=ad1 4 (UX N_) 188 ⟨[.flt,.flt,.ptr 0 0],[some (171,1,.cells [.ptr 1 0]),some (173,1,.cells [.bool])]⟩ [.f,.f,.b] (λS_ c_ t head b=>S_ t head b (λr0 r1=>c_ (.flt r0) (.bool r1))) N_ (e_ N_)
def UZ (N_:Nat):LT:=ad (UY N_) 127 ⟨[.int .i64,.fn 128 [.ptr 0 0],.agg [.fn 185 [.ptr 1 0],.fn 187 [.ptr 1 0],.fn 188 [.ptr 1 0]]],[some (28,1,.cells [.int .i64,.int .i64,.rof]),some (171,1,.cells [.ptr 2 0]),some (173,1,.cells [.bool])]⟩ [.i,.i,.i,.fs,.b] (λS_ c_ n b ZB ZH ZW=>S_ n b ZB ZH ZW (λr0 r1 r5 r6=>c_ (.tup [.nil,.slw 3,vwi r0,vwi r1]) [⟨28,1,.cells [vwi b,vwi ZB,.rof ZH]⟩,⟨171,1,.cells [.ptr 2 0]⟩,⟨173,1,.cells [.bool r5]⟩,⟨36,1,.flts r6⟩]) (λr0 r1 r5 r6 r7=>c_ (.tup [.slw 3,.slw 4,vwi r0,vwi r1]) [⟨28,1,.cells [vwi b,vwi ZB,.rof ZH]⟩,⟨171,1,.cells [.ptr 2 0]⟩,⟨173,1,.cells [.bool r5]⟩,⟨36,1,.flts r6⟩,⟨36,1,.flts r7⟩])) N_ (dA N_)
def U0 (N_:Nat):LT:=ad (UZ N_) 78 ⟨[.agg [.int .i64,.int .i64,.rof]],[]⟩ [.i,.i,.fs] (λS_ c_ Z0 ZM ZV=>S_ Z0 ZM ZV (λr0 r1 r2 r3 r4=>c_ (.tup [.agg [vwi r0,vwi r1,.rof r2],vwi r3,vwi r4]) [])) N_ (rP N_)
def U2 (N_:Nat):LT:=ad (U0 N_) 133 ⟨[.ptr 0 0,.agg [.int .i64,.int .i64,.rof],.rof],[some (173,1,.cells [.bool])]⟩ [.i,.i,.fs,.fs,.b] (λS_ c_ l_0 l_1 l_2 b ZB=>S_ l_0 l_1 l_2 b ZB (λr0 r1=>c_ (.rof r0) [⟨173,1,.cells [.bool r1]⟩])) N_ (il N_)
def U4 (N_:Nat):LT:=ad (U2 N_) 132 ⟨[.agg [.int .i64,.int .i64,.rof],.rof,.fn 133 []],[]⟩ [.i,.i,.fs,.fs] (λS_ c_ l_0 l_1 l_2 b=>S_ l_0 l_1 l_2 b (λr0 r1=>c_ (.tup [.rof r0,vwi r1]) [])) N_ (rQ N_)
def U5 (N_:Nat):LT:=ad (U4 N_) 189 ⟨[.agg [.int .i64,.int .i64,.rof]],[]⟩ [.i,.i,.fs] (λS_ c_ ZP ZE ZK=>S_ ZP ZE ZK (λr2=>c_ (.agg [vwi ZP,vwi ZE,.slw 0]) [⟨231,1,.own 235 RT1 r2 []⟩])) N_ (sa N_)
def U6 (N_:Nat):LT:=ad (U5 N_) 136 ⟨[.agg [.int .i64,.int .i64,.rof]],[]⟩ [.i,.i,.fs] (λS_ c_ ZP ZE ZK=>S_ ZP ZE ZK (λr0 r1=>c_ (.tup [vwi r0,vwi r1]) [])) N_ (pn N_)
def U7 (N_:Nat):LT:=ad (U6 N_) 144 ⟨[.ptr 0 0,.agg [.int .i64,.int .i64,.rof],.rof],[some (173,1,.cells [.bool])]⟩ [.i,.i,.fs,.fs,.b] (λS_ c_ l_0 l_1 l_2 b ZB=>S_ l_0 l_1 l_2 b ZB (λr0 r1=>c_ (.rof r0) [⟨173,1,.cells [.bool r1]⟩])) N_ (jM N_)
def U8 (N_:Nat):LT:=ad (U7 N_) 140 ⟨[.agg [.int .i64,.int .i64,.rof],.agg [.int .i64,.int .i64,.rof]],[]⟩ [.i,.i,.fs,.i,.i,.fs] (λS_ c_ Z0 ZM ZV b_0 ZB ZH=>S_ Z0 ZM ZV b_0 ZB ZH (λr0 r1 r2 r3 r4=>c_ (.tup [.agg [vwi r0,vwi r1,.rof r2],vwi r3,vwi r4]) [])) N_ (mK N_)
def U9 (N_:Nat):LT:=ad (U8 N_) 141 ⟨[.agg [.int .i64,.int .i64,.rof]],[]⟩ [.i,.i,.fs] (λS_ c_ ZP ZE ZK=>S_ ZP ZE ZK (λr0 r1 r2 r3=>c_ (.tup [.agg [vwi r0,vwi r1,.rof r2],vwi r3]) [])) N_ (M6 N_)
def U_ (N_:Nat):LT:=ad (U9 N_) 83 ⟨[.agg [.int .i64,.int .i64,.rof]],[]⟩ [.i,.i,.fs] (λS_ c_ Z0 ZM ZV=>S_ Z0 ZM ZV (λr0 r1 r2 r3 r4=>c_ (.tup [.agg [vwi r0,vwi r1,.rof r2],vwi r3,vwi r4]) [])) N_ (nG N_)
def Va (N_:Nat):LT:=ad (U_ N_) 84 ⟨[.agg [.int .i64,.int .i64,.rof],.rof],[]⟩ [.i,.i,.fs,.fs] (λS_ c_ Z0 ZM ZV b=>S_ Z0 ZM ZV b (λr0 r1 r2=>c_ (.tup [.rof r0,vwi r1,vwi r2]) [])) N_ (qg N_)
def Vb (N_:Nat):LT:=ad (Va N_) 29 ⟨[.agg [.int .i64,.int .i64,.rof,.rof]],[]⟩ [.i,.i,.fs,.fs] (λS_ c_ Z0 ZM ZV ZY=>S_ Z0 ZM ZV ZY (λr0=>c_ (vwi r0) [])) N_ (TE N_)
def Vc (N_:Nat):LT:=ad (Vb N_) 89 ⟨[.agg [.int .i64,.int .i64,.rof]],[]⟩ [.i,.i,.fs] (λS_ c_ l_0 l_1 l_2=>S_ l_0 l_1 l_2 (λr0 r1 r2 r3=>c_ (.tup [.agg [vwi r0,vwi r1,.rof r2],vwi r3]) [])) N_ (ph N_)
def Vd (N_:Nat):LT:=upM Pg jh N_ fmd (Vc N_) [81,79,183]
def Ve (N_:Nat):LT:=ad (Vd N_) 125 ⟨[.agg [.int .i64,.int .i64,.rof]],[]⟩ [.i,.i,.fs] (λS_ c_ ZP ZE ZK=>S_ ZP ZE ZK (λr0 r1=>c_ (.tup [vwi r0,vwi r1]) [])) N_ (jO N_)
def Vf (N_:Nat):LT:=ad (Ve N_) 27 ⟨[.agg [.int .i64,.int .i64,.rof]],[]⟩ [.i,.i,.fs] (λS_ c_ ZP ZE ZK=>S_ ZP ZE ZK (λr0=>c_ (.bool r0) [])) N_ (GQ4 N_)
def Vg (N_:Nat):LT:=upM Pg jh N_ fmd (Vf N_) [77]
def Vh (N_:Nat):LT:=ad (Vg N_) 25 ⟨[.agg [.int .i64,.int .i64,.rof,.rof]],[]⟩ [.i,.i,.fs,.fs] (λS_ c_ Z0 ZM ZV ZY=>S_ Z0 ZM ZV ZY (λr0=>c_ (vwi r0) [])) N_ (qh N_)
def Vi (N_:Nat):LT:=ad (Vh N_) 26 ⟨[.agg [.int .i64,.int .i64,.rof,.rof]],[]⟩ [.i,.i,.fs,.fs] (λS_ c_ Z0 ZM ZV ZY=>S_ Z0 ZM ZV ZY (λr0 r1 r2 r3 r4=>c_ (.tup [.agg [vwi r0,vwi r1,.rof r2,.rof r3],vwi r4]) [])) N_ (pk N_)
def Vj (N_:Nat):LT:=ad (Vi N_) 92 ⟨[.ptr 0 0,.slw 1,.agg [.int .i64,.int .i64,.slw 2]],[some (107,1,.cells [.bool]),some (36,1,.flts),some (36,1,.flts)]⟩ [.i,.i,.b,.fs,.fs] (λS_ c_ y_0 Z3 b ZB ZH=>S_ y_0 Z3 b ZB ZH (λr0 r1 r2=>c_ (.tup [.agg [vwi r0,vwi r1,.nil,.nil],vwi r2]) [⟨107,1,.cells [.bool b]⟩,⟨36,1,.flts ZB⟩,⟨36,1,.flts ZH⟩]) (λr2=>c_ (.tup [.agg [vwi y_0,vwi Z3,.slw 2,.slw 1],vwi r2]) [⟨107,1,.cells [.bool b]⟩,⟨36,1,.flts ZB⟩,⟨36,1,.flts ZH⟩])) N_ (im N_)
def Vk (N_:Nat):LT:=ad (Vj N_) 50 ⟨[.agg [.int .i64,.int .i64,.rof,.rof],.fn 46 [.ptr 0 0,.ptr 1 0],.fn 49 [.ptr 0 0,.ptr 2 0,.ptr 1 0]],[some (26,1,.cells [.rof]),some (36,1,.cells [.flt]),some (36,1,.cells [.flt])]⟩ [.i,.i,.fs,.fs,.fs,.f,.f] (λS_ c_ Z0 ZM ZV ZY b ZB ZH=>S_ Z0 ZM ZV ZY b ZB ZH (λr0 r1 r2=>c_ (.tup [.agg [vwi r0,vwi r1,.nil,.nil],vwi r2]) [⟨26,1,.cells [.rof b]⟩,⟨36,1,.cells [.flt ZB]⟩,⟨36,1,.cells [.flt ZH]⟩]) (λr0 r1 r2 r6 r7=>c_ (.tup [.agg [vwi r0,vwi r1,.slw 3,.slw 4],vwi r2]) [⟨26,1,.cells [.rof b]⟩,⟨36,1,.cells [.flt ZB]⟩,⟨36,1,.cells [.flt ZH]⟩,⟨36,1,.flts r6⟩,⟨36,1,.flts r7⟩])) N_ (ke N_)
def Vl (N_:Nat):LT:=ad (Vk N_) 10 ⟨[.agg [.int .i64,.int .i64,.rof,.rof],.rof,.flt,.flt],[]⟩ [.i,.i,.fs,.fs,.fs,.f,.f] (λS_ c_ Z0 ZM ZV ZY h r z=>S_ Z0 ZM ZV ZY h r z (λr0 r1 r2 r3 r4=>c_ (.tup [.agg [vwi r0,vwi r1,.rof r2,.rof r3],vwi r4]) [])) N_ (pm N_)
def Vm (N_:Nat):LT:=ad (Vl N_) 28 ⟨[.agg [.int .i64,.int .i64,.rof,.rof]],[]⟩ [.i,.i,.fs,.fs] (λS_ c_ Z0 ZM ZV ZY=>S_ Z0 ZM ZV ZY (λr0 r1 r2 r3 r4=>c_ (.tup [.agg [.rof r0,vwi r1,vwi r2,.rof r3],vwi r4]) [])) N_ (qi N_)
def Vn (N_:Nat):LT:=ao (Vm N_) 92 ⟨[.ptr 0 0,.slw 1,.agg [.int .i64,.int .i64,.rof]],[some (107,1,.cells [.bool]),some (36,1,.flts)]⟩ [.i,.i,.fs,.b,.fs] (λS_ c_ y_0 Z3 y_2 b ZB=>S_ y_0 Z3 y_2 b ZB (λr0 r1 r2=>c_ (.tup [.agg [vwi r0,vwi r1,.nil,.nil],vwi r2]) [⟨107,1,.cells [.bool b]⟩,⟨36,1,.flts ZB⟩]) (λr3=>c_ (.tup [.agg [vwi y_0,vwi Z3,.rof y_2,.slw 1],vwi r3]) [⟨107,1,.cells [.bool b]⟩,⟨36,1,.flts ZB⟩])) N_ (jN N_)
def NB (N_:Nat):LT:=ad (Vn N_) 30 ⟨[.agg [.int .i64,.int .i64,.rof,.rof]],[]⟩ [.i,.i,.fs,.fs] (λS_ c_ Z0 ZM ZV ZY=>S_ Z0 ZM ZV ZY (λr0 r1 r2 r3 r4=>c_ (.tup [.agg [vwi r0,vwi r1,.rof r2,.rof r3],vwi r4]) [])) N_ (lT N_)
def P1:FnSh:=⟨[.roi .u64,.int .i64,.roi .u64,.rl RT3],[]⟩
end
theorem Oh (w:World) (v:Value):Calls Tryz.prog 181 #[.nilIface,v] w λe w'=>e=.returned v/\w'=w:=
 QJ (P:=Tryz.prog) (fc:=181) (fn:=Tryz.f181) (by kernel_rfl) (by kernel_rfl) (by kernel_rfl) rfl rfl rfl rfl rfl rfl rfl rfl rfl rfl rfl rfl rfl rfl rfl rfl rfl rfl rfl (λ_=>rfl) (λ_=>by kernel_rfl) w v
theorem SE:uJ Tryz.prog 180:=
 N7 (P:=Tryz.prog) (g:=180) (fc:=181) (fg:=Tryz.f180) (ff:=Tryz.f181) (by kernel_rfl) (by kernel_rfl) (by kernel_rfl) (by kernel_rfl) rfl (by kernel_rfl) (by kernel_rfl) (by kernel_rfl) (by kernel_rfl) (by kernel_rfl) rfl rfl rfl rfl rfl rfl rfl rfl rfl rfl rfl (by kernel_rfl) (by kernel_rfl) Oh
theorem hD_:HD Tryz.prog jh:=by
 intro g hg h;have e:g=180:=by have h:=Gj h; simp at h; omega
 rcases e with rfl
 exact SE
end Go.Proofs.YtdinakfmablagaaGreatDoor
end
