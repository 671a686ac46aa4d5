/- The program's functions and their ties. Conditions: none. -/
import Derived.Test.YtdinakfmablagaaGreatDoorGp
import Derived.Test.YtdinakfmablagaaGreatDoorMachT
import Derived.Test.YtdinakfmablagaaGreatDoorProg
set_option linter.unusedVariables false
section
namespace Go.Proofs.YtdinakfmablagaaGreatDoor
open Go Go.Mach Go.Proofs
set_option maxRecDepth 50000
abbrev KV:=V->List Blk->Bool
abbrev SPT:=List Atom->KV->Bool
noncomputable abbrev Pg:Program:=Tryz.prog
def vqs:Nat → List V → List V
  | 0,t=>t
  | n+1,t=>.any::vqs n t
abbrev vwi (z:Int):V:=.int .i64 z
abbrev vwu (z:Int):V:=.int .u64 z
abbrev vwv (z:Int):V:=.int .u32 z
abbrev vwr (l:LI):V:=.roi .u64 l
abbrev vws (l:LI):V:=.roi .u32 l
theorem XH {p:Nat → Prop} (h:p 0):∀ i,i<1 → p i
 | 0,_=>h
 | _+1,g=>by omega
theorem WT {p:Nat → Prop} (h:p 0) (h1:p 1):∀ i,i<2 → p i
 | 0,_=>h
 | 1,_=>h1
 | _+2,g=>by omega
def sqs:Nat → List Sh → List Sh
 | 0,t=>t
 | n+1,t=>.any::sqs n t
noncomputable def kc:Nat->Bool:=Pq [134,206,171,78,140,83,84,79,105,89,132,133,144,141,139,80,194,28,26,41,32,30,102,150,94,100,103,106,165,164,104,36,39,42,33,40,152,88,151,199,50,32,30,10,20,12,21,16,15,92,91,57,54,286,259,305,316,17,109,97,96,160,157,156,90,204,228,201,203,226,227,242,216,269,245,217,183,265,312,306,254,283,284,1000318,1000209,1000207,2000180,3000090,3000048,3000047,4000230,4000187,4000061,6000185,6000188,12000184]
abbrev LT:=List (Nat × Fs)
abbrev TbS (A B:Nat->LT):Prop:=∀ N,OKL Pg kc (A N)->OKL Pg kc (B N)
noncomputable def fmd:Nat->Nat:=λg=>(cond (Pq [8,14,42,79,80,105,120,139,171,202,237,238,239,240,241,251,252,259,260,261,268,274,275,296,302,312] g) 1 (cond (Pq [243,246,247,270,271] g) 2 0))
noncomputable section
def L0 (N_:Nat):LT:=[]
def WC:FnSh:=⟨[.fb],[]⟩
def S5 (ad2:NN):SPT:=λa_ c_=>match a_ with
 | [.nat a0]=>ad2 a0 (λr0=>c_ (vwu r0) [])
 | _=>false
abbrev WU (ad2:NN):Fs:=fD WC (S5 ad2)
def L1 (N_:Nat):LT:=(19,(WU (Ev N_)))::L0 N_
def R7:FnSh:=⟨[.int .u64],[]⟩
def P3 (ada:Hv):SPT:=λa_ c_=>match a_ with
 | [.int a0]=>ada a0 (λr0=>c_ (.flt r0) [])
 | _=>false
abbrev MM (ada:Hv):Fs:=fD R7 (P3 ada)
def L2 (N_:Nat):LT:=(44,(MM (BJ N_)))::L1 N_
def L3 (N_:Nat):LT:=ad (L2 N_) 9 ⟨[.roi .u64],[]⟩ [.is] (λS_ c_ l=>S_ l (λr0=>c_ (.rof r0) [])) N_ (vz N_)
def P0:FnSh:=⟨[.flt],[]⟩
def S6 (ad6:NQ):SPT:=λa_ c_=>match a_ with
 | [.fl a0]=>ad6 a0 (λr0=>c_ (vwu r0) [])
 | _=>false
abbrev Td (ad6:NQ):Fs:=fD P0 (S6 ad6)
def L4 (N_:Nat):LT:=(19,(Ep (Td (yn N_)) (ofL (L3 N_) 19) P0))::L3 N_
def L5 (N_:Nat):LT:=ad (L4 N_) 285 ⟨[.int .u64],[]⟩ [.i] (λS_ c_ x=>S_ x (λr0=>c_ (vwi r0) [])) N_ (GQ9 N_)
def L6 (N_:Nat):LT:=ad (L5 N_) 286 ⟨[.slw 0],[some (23,1,.ints .u64)]⟩ [.is] (λS_ c_ b=>S_ b (λr0=>c_ (.sl 0 0 r0) [⟨23,1,.ints .u64 b⟩])) N_ (Tw N_)
def L7 (N_:Nat):LT:=ad (L6 N_) 262 ⟨[.roi .u64,.int .u64],[]⟩ [.is,.i] (λS_ c_ x n=>S_ x n (λr0=>c_ (vwr r0) [])) N_ (vt N_)
def L8 (N_:Nat):LT:=ad (L7 N_) 288 ⟨[.roi .u64,.roi .u64],[]⟩ [.is,.is] (λS_ c_ x y=>S_ x y (λr0=>c_ (vwi r0) [])) N_ (M3 N_)
def L9 (N_:Nat):LT:=ad (L8 N_) 311 ⟨[.int .u64],[]⟩ [.i] (λS_ c_ x=>S_ x (λr0=>c_ (vwi r0) [])) N_ (TM N_)
def L10 (N_:Nat):LT:=ad (L9 N_) 298 ⟨[.roi .u64],[]⟩ [.is] (λS_ c_ x=>S_ x (λr0=>c_ (vwi r0) [])) N_ (qg N_)
def L11 (N_:Nat):LT:=ad (L10 N_) 299 ⟨[.int .u64,.int .u64],[]⟩ [.i,.i] (λS_ c_ x y=>S_ x y (λr0 r1 r2 r3 r4=>c_ (.agg [vwu r0,vwu r1,vwu r2,vwu r3,.bool r4]) [])) N_ (yD N_)
def L12 (N_:Nat):LT:=ad (L11 N_) 307 ⟨[.int .u64,.int .u64],[]⟩ [.i,.i] (λS_ c_ x y=>S_ x y (λr0 r1=>c_ (.tup [vwu r0,vwu r1]) [])) N_ (MX N_)
def XR:FnSh:=⟨[.int .u64,.int .u64,.int .u64],[]⟩
def XV (SQ2:VF):SPT:=λa_ c_=>match a_ with
 | [.int a0,.int a1,.int a2]=>SQ2 a0 a1 a2 (λr0 r1=>c_ (.tup [vwu r0,vwu r1]) [])
 | _=>false
abbrev FQ2 (SQ2:VF):Fs:=fD XR (XV SQ2)
def L13 (N_:Nat):LT:=(308,(FQ2 (sQ2 N_)))::L12 N_
def L14 (N_:Nat):LT:=ad (L13 N_) 290 ⟨[.int .u64,.int .u64,.int .u64,.int .u64],[]⟩ [.i,.i,.i,.i] (λS_ c_ a b c d=>S_ a b c d (λr0 r1=>c_ (.tup [vwu r0,vwu r1]) [])) N_ (vq N_)
def L15 (N_:Nat):LT:=ad (L14 N_) 314 ⟨[.roi .u64,.int .u64,.int .u64],[]⟩ [.is,.i,.i] (λS_ c_ x d more=>S_ x d more (λr0=>c_ (vwr r0) [])) N_ (Ng N_)
def XS:FnSh:=⟨[.int .u64,.int .u64,.int .u64],[]⟩
def XW (SQ4:VG):SPT:=λa_ c_=>match a_ with
 | [.int a0,.int a1,.int a2]=>SQ4 a0 a1 a2 (λr0 r1=>c_ (.tup [vwu r0,vwu r1]) [])
 | _=>false
abbrev FQ4 (SQ4:VG):Fs:=fD XS (XW SQ4)
def L16 (N_:Nat):LT:=(317,(FQ4 (sQ4 N_)))::L15 N_
def L17 (N_:Nat):LT:=ao (L16 N_) 286 ⟨[.sl 0],[some (23,1,.ints .u64)]⟩ [.n,.n,.is] (λS_ c_ x_0 x_1 b=>S_ x_0 x_1 b (λr1=>c_ (.sl 0 x_0 r1) [⟨23,1,.ints .u64 b⟩])) N_ (qh N_)
def L18 (N_:Nat):LT:=ad (L17 N_) 266 ⟨[.roi .u64,.roi .u64],[]⟩ [.is,.is] (λS_ c_ x y=>S_ x y (λr0=>c_ (vwr r0) [])) N_ (TX N_)
def L19 (N_:Nat):LT:=ad (L18 N_) 242 ⟨[.agg [.int .i64,.int .i64,.slw 0],.int .i64,.int .i64],[some (249,1,.recs RT0)]⟩ [.i,.i,.i,.i,.r RT0] (λS_ c_ g_0 g_1 i j b=>S_ g_0 g_1 i j b (λr0 r1 r2 r3=>c_ (.agg [.rp [.bool r0,vwr r1,.bool r2,vwr r3] 0]) [⟨249,1,.recs RT0 b⟩])) N_ (eO N_)
def L20 (N_:Nat):LT:=ad (L19 N_) 293 ⟨[.rp [.bool,.roi .u64,.bool,.roi .u64] 0],[]⟩ [.b,.is,.b,.is] (λS_ c_ x_0 x_1 x_2 x_3=>S_ x_0 x_1 x_2 x_3 (λr0=>c_ (vwi r0) [])) N_ (NA N_)
def R8:FnSh:=⟨[.flt],[]⟩
def P4 (adb:Hw):SPT:=λa_ c_=>match a_ with
 | [.fl a0]=>adb a0 (λr0=>c_ (.flt r0) [])
 | _=>false
abbrev Sc (adb:Hw):Fs:=fD R8 (P4 adb)
def L21 (N_:Nat):LT:=(110,(Sc (GT N_)))::L20 N_
def L22 (N_:Nat):LT:=ad (L21 N_) 221 ⟨[.roi .i64],[]⟩ [.is] (λS_ c_ l=>S_ l (λr0=>c_ (vwi r0) [])) N_ (MY N_)
def L23 (N_:Nat):LT:=ad (L22 N_) 191 ⟨[.int .i64,.int .i64,.int .i64],[]⟩ [.i,.i,.i] (λS_ c_ rows cols n=>S_ rows cols n (λr0=>c_ (vwi r0) [])) N_ (sw N_)
def L24 (N_:Nat):LT:=ad (L23 N_) 169 ⟨[.int .i64,.int .u64,.int .i64],[]⟩ [.i,.i,.i] (λS_ c_ exp frac most=>S_ exp frac most (λr0=>c_ (vwi r0) [])) N_ (NC N_)
def L25 (N_:Nat):LT:=ad (L24 N_) 170 ⟨[.int .u64,.int .i64],[]⟩ [.i,.i] (λS_ c_ m e=>S_ m e (λr0 r1=>c_ (.tup [vwu r0,vwi r1]) [])) N_ (uk N_)
def L26 (N_:Nat):LT:=ad (L25 N_) 206 ⟨[.slw 0],[some (238,1,.ints .u32)]⟩ [.is] (λS_ c_ b=>S_ b (λr0=>c_ (.sl 0 0 r0) [⟨238,1,.ints .u32 b⟩])) N_ (Tp N_)
def L27 (N_:Nat):LT:=ad (L26 N_) 172 ⟨[.int .u64],[]⟩ [.i] (λS_ c_ n=>S_ n (λr0=>c_ (vws r0) [])) N_ (Nt N_)
def L28 (N_:Nat):LT:=ao (L27 N_) 206 ⟨[.roi .u32],[]⟩ [.is] (λS_ c_ m=>S_ m (λr0=>c_ (vws r0) [])) N_ (xB N_)
def L29 (N_:Nat):LT:=ad (L28 N_) 210 ⟨[.roi .u32,.int .u64],[]⟩ [.is,.i] (λS_ c_ m n=>S_ m n (λr0=>c_ (vws r0) [])) N_ (vx N_)
def L30 (N_:Nat):LT:=ad (L29 N_) 276 ⟨[.int .u32],[]⟩ [.i] (λS_ c_ x=>S_ x (λr0=>c_ (vwi r0) [])) N_ (GQ8 N_)
def L31 (N_:Nat):LT:=ad (L30 N_) 253 ⟨[.ptr 0 0],[some (158,1,.cells [.bool,.roi .u32])]⟩ [.b,.is] (λS_ c_ b ZX=>S_ b ZX (λr0=>c_ (vwu r0) [⟨158,1,.cells [.bool b,vws ZX]⟩])) N_ (GQ1 N_)
def L32 (N_:Nat):LT:=ad (L31 N_) 254 ⟨[.roi .u32,.int .u64],[]⟩ [.is,.i] (λS_ c_ m n=>S_ m n (λr0=>c_ (vws r0) [])) N_ (TN N_)
def L33 (N_:Nat):LT:=ad (L32 N_) 277 ⟨[.int .u32],[]⟩ [.i] (λS_ c_ x=>S_ x (λr0=>c_ (vwi r0) [])) N_ (M8 N_)
def L34 (N_:Nat):LT:=ad (L33 N_) 255 ⟨[.ptr 0 0],[some (158,1,.cells [.bool,.roi .u32])]⟩ [.b,.is] (λS_ c_ b ZX=>S_ b ZX (λr0=>c_ (vwi r0) [⟨158,1,.cells [.bool b,vws ZX]⟩])) N_ (TL N_)
def L35 (N_:Nat):LT:=ad (L34 N_) 208 ⟨[.roi .u32,.roi .u32],[]⟩ [.is,.is] (λS_ c_ a b=>S_ a b (λr0=>c_ (vwi r0) [])) N_ (TV N_)
def L36 (N_:Nat):LT:=ad (L35 N_) 279 ⟨[.roi .u32,.int .i64],[]⟩ [.is,.i] (λS_ c_ m at_=>S_ m at_ (λr0=>c_ (vwu r0) [])) N_ (vw N_)
def L37 (N_:Nat):LT:=ad (L36 N_) 278 ⟨[.int .u64,.int .u64],[]⟩ [.i,.i] (λS_ c_ x y=>S_ x y (λr0 r1 r2 r3=>c_ (.tup [vwi r0,vwi r1,vwi r2,vwi r3]) [])) N_ (sq N_)
def L38 (N_:Nat):LT:=ad (L37 N_) 281 ⟨[.roi .u32,.int .u32],[]⟩ [.is,.i] (λS_ c_ m d=>S_ m d (λr0 r1=>c_ (.tup [vws r0,vwv r1]) [])) N_ (so N_)
def L39 (N_:Nat):LT:=ad (L38 N_) 283 ⟨[.sl 0,.sl 1,.int .i64,.int .u64],[some (238,1,.ints .u32),some (238,1,.ints .u32)]⟩ [.n,.n,.n,.n,.i,.i,.is,.is] (λS_ c_ u_0 u_1 d_0 d_1 j g b ZX=>S_ u_0 u_1 d_0 d_1 j g b ZX (λr0 r1=>c_ (.bool r0) [⟨238,1,.ints .u32 r1⟩,⟨238,1,.ints .u32 ZX⟩])) N_ (Nk N_)
def L40 (N_:Nat):LT:=ad (L39 N_) 284 ⟨[.sl 0,.sl 1,.int .i64],[some (238,1,.ints .u32),some (238,1,.ints .u32)]⟩ [.n,.n,.n,.n,.i,.is,.is] (λS_ c_ u_0 u_1 d_0 d_1 j b ZX=>S_ u_0 u_1 d_0 d_1 j b ZX (λr0=>c_ (.tup []) [⟨238,1,.ints .u32 r0⟩,⟨238,1,.ints .u32 ZX⟩])) N_ (Nl N_)
def L41 (N_:Nat):LT:=ao (L40 N_) 206 ⟨[.sl 0],[some (238,1,.ints .u32)]⟩ [.n,.n,.is] (λS_ c_ m_0 Z0 b=>S_ m_0 Z0 b (λr1=>c_ (.sl 0 m_0 r1) [⟨238,1,.ints .u32 b⟩])) N_ (sk N_)
def L42 (N_:Nat):LT:=ao (L41 N_) 254 ⟨[.sl 0,.int .u64],[some (238,1,.ints .u32)]⟩ [.n,.n,.i,.is] (λS_ c_ m_0 Z0 n b=>S_ m_0 Z0 n b (λr0=>c_ (vws r0) [⟨238,1,.ints .u32 b⟩])) N_ (Ny N_)
def L43 (N_:Nat):LT:=ad (L42 N_) 175 ⟨[.roi .u32,.roi .u32],[]⟩ [.is,.is] (λS_ c_ a b=>S_ a b (λr0=>c_ (vws r0) [])) N_ (TY N_)
def L44 (N_:Nat):LT:=ad (L43 N_) 209 ⟨[.roi .u32,.roi .u32],[]⟩ [.is,.is] (λS_ c_ a b=>S_ a b (λr0=>c_ (vws r0) [])) N_ (sm N_)
def L45 (N_:Nat):LT:=ad (L44 N_) 297 ⟨[.roi .u32,.int .u64,.roi .u32,.int .u64],[]⟩ [.is,.i,.is,.i] (λS_ c_ a u b v=>S_ a u b v (λr0=>c_ (vws r0) [])) N_ (NB N_)
def L46 (N_:Nat):LT:=ad (L45 N_) 280 ⟨[.roi .u32,.int .i64,.roi .u32,.int .i64],[]⟩ [.is,.i,.is,.i] (λS_ c_ a u b v=>S_ a u b v (λr0=>c_ (vws r0) [])) N_ (uj N_)
def L47 (N_:Nat):LT:=ad (L46 N_) 225 ⟨[.int .i64,.int .i64],[]⟩ [.i,.i] (λS_ c_ rows cols=>S_ rows cols (λr2=>c_ (.agg [vwi rows,vwi cols,.slw 0]) [⟨231,1,.own 235 RT1 r2 []⟩])) N_ (qp N_)
def L48 (N_:Nat):LT:=ad (L47 N_) 115 ⟨[.rp [.bool,.roi .u32,.bool,.roi .u32] 0],[]⟩ [.b,.is,.b,.is] (λS_ c_ z_0 z_1 z_2 z_3=>S_ z_0 z_1 z_2 z_3 (λr0=>c_ (vwi r0) [])) N_ (xD N_)
def L49 (N_:Nat):LT:=ad (L48 N_) 207 ⟨[.roi .u32,.roi .u32],[]⟩ [.is,.is] (λS_ c_ a b=>S_ a b (λr0=>c_ (vws r0) [])) N_ (vy N_)
def L50 (N_:Nat):LT:=ad (L49 N_) 43 ⟨[.rof,.rof],[]⟩ [.fs,.fs] (λS_ c_ a b=>S_ a b (λr0=>c_ (.bool r0) [])) N_ (Tk N_)
def L51 (N_:Nat):LT:=ad (L50 N_) 58 ⟨[.agg [.int .i64,.int .i64,.rof],.agg [.int .i64,.int .i64,.rof]],[]⟩ [.i,.i,.fs,.i,.i,.fs] (λS_ c_ Z9 Z4 a_2 b_0 ZX Z3=>S_ Z9 Z4 a_2 b_0 ZX Z3 (λr0=>c_ (.bool r0) [])) N_ (Ql N_)
def L52 (N_:Nat):LT:=ad (L51 N_) 91 ⟨[.agg [.int .i64,.int .i64,.rof],.int .i64],[]⟩ [.i,.i,.fs,.i] (λS_ c_ m_0 Z0 Z7 i=>S_ m_0 Z0 Z7 i (λr0=>c_ (.rof r0) [])) N_ (vv N_)
def Mv:FnSh:=⟨[.flt],[]⟩
def BT (ab9:Am):SPT:=λa_ c_=>match a_ with
 | [.fl x]=>ab9 x (λr0=>c_ (.flt r0) [])
 | _=>false
abbrev Je (ab9:Am):Fs:=fD Mv (BT ab9)
def L53 (N_:Nat):LT:=(167,(Je (xk N_)))::L52 N_
def PZ:FnSh:=⟨[.fb],[]⟩
def P6 (ad4:Sx):SPT:=λa_ c_=>match a_ with
 | [.nat x]=>ad4 x (λr0=>c_ (.flt r0) [])
 | _=>false
abbrev Tc (ad4:Sx):Fs:=fD PZ (P6 ad4)
def L54 (N_:Nat):LT:=ad (L53 N_) 107 ⟨[.flt,.int .i64],[]⟩ [.f,.i] (λS_ c_ f sign=>S_ f sign (λr0=>c_ (.bool r0) [])) N_ (ui N_)
def L55 (N_:Nat):LT:=ad1 1 (L54 N_) 47 ⟨[.ptr 0 0,.flt],[some (107,1,.cells [.bool])]⟩ [.f,.b] (λS_ c_ x b=>S_ x b (λr1=>c_ (.flt x) (.bool r1))) N_ (vu N_)
def L56 (N_:Nat):LT:=ad1 1 (L55 N_) 48 ⟨[.ptr 0 0,.flt,.flt],[some (107,1,.cells [.bool])]⟩ [.f,.f,.b] (λS_ c_ a b ZX=>S_ a b ZX (λr0 r1=>c_ (.flt r0) (.bool r1))) N_ (sj N_)
def L57 (N_:Nat):LT:=ad1 1 (L56 N_) 90 ⟨[.ptr 0 0,.rof,.rof],[some (107,1,.cells [.bool])]⟩ [.fs,.fs,.b] (λS_ c_ a b ZX=>S_ a b ZX (λr0 r1=>c_ (.flt r0) (.bool r1))) N_ (si N_)
def L58 (N_:Nat):LT:=ad1 2 (L57 N_) 61 ⟨[.ptr 0 0],[some (107,1,.cells [.bool])]⟩ [.b] (λS_ c_ b=>S_ b (c_ (.bool b) (.any))) N_ (qj N_)
def L59 (N_:Nat):LT:=ad (L58 N_) 97 ⟨[.agg [.int .i64,.int .i64,.rof],.int .i64],[]⟩ [.i,.i,.fs,.i] (λS_ c_ m_0 Z0 Z7 i=>S_ m_0 Z0 Z7 i (λr0=>c_ (.rof r0) [])) N_ (xC N_)
def S2:FnSh:=⟨[],[]⟩
def WF (SQ0:VE):SPT:=λa_ c_=>match a_ with
 | []=>SQ0 (λr0=>c_ (.bool r0) [])
 | _=>false
abbrev FQ0 (SQ0:VE):Fs:=fD S2 (WF SQ0)
def L60 (N_:Nat):LT:=(22,(FQ0 (sQ0 N_)))::L59 N_
def L61 (N_:Nat):LT:=upM Pg kc N_ fmd (L60 N_) [13,18,135,166,54,53,202,201,282,252,171,56,192,197,224,222,131,59,128,129,130,220,269,244,268,296,241,302,304,312,237,261,259,260,214,124,121,14,8,232,233,231,178]
def L62 (N_:Nat):LT:=ad (L61 N_) 212 ⟨[.int .u64,.agg [.int .u64,.int .i64,.int .i64]],[]⟩ [.i,.i,.i,.i] (λS_ c_ b f_0 f_1 f_2=>S_ b f_0 f_1 f_2 (λr0=>c_ (.bool r0) [])) N_ (M0 N_)
def L63 (N_:Nat):LT:=ad (L62 N_) 213 ⟨[.agg [.int .u64,.int .i64,.int .i64]],[]⟩ [.i,.i,.i] (λS_ c_ f_0 f_1 f_2=>S_ f_0 f_1 f_2 (λr0=>c_ (vwu r0) [])) N_ (xA N_)
def L64 (N_:Nat):LT:=ad (L63 N_) 235 ⟨[.ptr 0 0,.int .u64],[some (264,1,.cells [.bool,.nil])]⟩ [.i,.b] (λS_ c_ n b=>S_ n b (λr0 r1=>c_ (.ptr 0 0) [⟨264,1,.cells [.bool r0,vwr r1]⟩])) N_ (Tl N_)
def L65 (N_:Nat):LT:=ad (L64 N_) 236 ⟨[.ptr 0 0,.ptr 0 0],[some (264,1,.cells [.bool,.roi .u64])]⟩ [.b,.is] (λS_ c_ b ZX=>S_ b ZX (λr0 r1=>c_ (.ptr 0 0) [⟨264,1,.cells [.bool r0,vwr r1]⟩])) N_ (Tx N_)
def L66 (N_:Nat):LT:=ad (L65 N_) 263 ⟨[.ptr 0 0,.int .i64],[some (264,1,.cells [.bool,.nil])]⟩ [.i,.b] (λS_ c_ n b=>S_ n b (λr0 r1=>c_ (.ptr 0 0) [⟨264,1,.cells [.bool r0,vwr r1]⟩])) N_ (TD N_)
def L67 (N_:Nat):LT:=ad (L66 N_) 300 ⟨[.roi .u64,.int .i64],[]⟩ [.is,.i] (λS_ c_ x from_=>S_ x from_ (λr0=>c_ (vwu r0) [])) N_ (xz N_)
def L68 (N_:Nat):LT:=ad (L67 N_) 313 ⟨[.roi .u64,.roi .u64],[]⟩ [.is,.is] (λS_ c_ x y=>S_ x y (λr0=>c_ (vwr r0) [])) N_ (Nw N_)
def L69 (N_:Nat):LT:=ad (L68 N_) 301 ⟨[.agg [.int .u64,.int .u64,.int .u64,.int .u64,.bool],.roi .u64,.roi .u64],[]⟩ [.i,.i,.i,.i,.b,.is,.is] (λS_ c_ w_0 w_1 w_2 w_3 w_4 x y=>S_ w_0 w_1 w_2 w_3 w_4 x y (λr0 r1=>c_ (.tup [vwr r0,vwr r1]) [])) N_ (dQ N_)
def L70 (N_:Nat):LT:=ad (L69 N_) 315 ⟨[.int .u64,.int .u64,.int .u64],[]⟩ [.i,.i,.i] (λS_ c_ hi lo y=>S_ hi lo y (λr0 r1=>c_ (.tup [vwu r0,vwu r1]) [])) N_ (MW N_)
def L71 (N_:Nat):LT:=ad (L70 N_) 303 ⟨[.roi .u64,.int .u64],[]⟩ [.is,.i] (λS_ c_ x d=>S_ x d (λr0 r1=>c_ (.tup [vwr r0,vwu r1]) [])) N_ (sa N_)
def L72 (N_:Nat):LT:=ad (L71 N_) 316 ⟨[.sl 0,.roi .u64],[some (23,1,.ints .u64)]⟩ [.n,.n,.is,.is] (λS_ c_ u_0 u_1 v b=>S_ u_0 u_1 v b (λr0=>c_ (vwu r0) [⟨23,1,.ints .u64 b⟩])) N_ (u7 N_)
def L73 (N_:Nat):LT:=ad (L72 N_) 305 ⟨[.sl 0,.roi .u64],[some (23,1,.ints .u64)]⟩ [.n,.n,.is,.is] (λS_ c_ u_0 u_1 v b=>S_ u_0 u_1 v b (λr0 r1=>c_ (vwu r0) [⟨23,1,.ints .u64 r1⟩])) N_ (wA N_)
def L74 (N_:Nat):LT:=ao (L73 N_) 316 ⟨[.sl 0,.sl 1],[some (23,1,.ints .u64),some (23,1,.ints .u64)]⟩ [.n,.n,.n,.n,.is,.is] (λS_ c_ u_0 u_1 v_0 v_1 b ZX=>S_ u_0 u_1 v_0 v_1 b ZX (λr0=>c_ (vwu r0) [⟨23,1,.ints .u64 b⟩,⟨23,1,.ints .u64 ZX⟩])) N_ (Qq N_)
def L75 (N_:Nat):LT:=ao (L74 N_) 305 ⟨[.sl 0,.sl 1],[some (23,1,.ints .u64),some (23,1,.ints .u64)]⟩ [.n,.n,.n,.n,.is,.is] (λS_ c_ u_0 u_1 v_0 v_1 b ZX=>S_ u_0 u_1 v_0 v_1 b ZX (λr0 r1=>c_ (vwu r0) [⟨23,1,.ints .u64 r1⟩,⟨23,1,.ints .u64 ZX⟩])) N_ (Ni N_)
def L76 (N_:Nat):LT:=ad (L75 N_) 306 ⟨[.sl 0,.int .u64],[some (23,1,.ints .u64)]⟩ [.n,.n,.i,.is] (λS_ c_ x_0 x_1 n b=>S_ x_0 x_1 n b (λr0 r1=>c_ (.tup [vwr r0,.bool r1]) [⟨23,1,.ints .u64 b⟩])) N_ (Jf N_)
def M77 (N_:Nat):LT:=ad (L76 N_) 262 ⟨[.roi .u64,.int .u64],[]⟩ [.is,.i] (λS_ c_ x n=>S_ x n (c_ (.nil) []) (λr0 r1=>c_ (.sl 0 0 r0) [⟨23,1,.ints .u64 r1⟩])) N_ (TZ N_)
def L77 (N_:Nat):LT:=ad (L76 N_) 289 ⟨[.roi .u64,.roi .u64],[]⟩ [.is,.is] (λS_ c_ x y=>S_ x y (λr0 r1=>c_ (.tup [vwr r0,vwr r1]) [])) N_ (Nu N_)
def L78 (N_:Nat):LT:=ad (L77 N_) 287 ⟨[.roi .u64,.roi .u64],[]⟩ [.is,.is] (λS_ c_ x y=>S_ x y (λr0=>c_ (vwr r0) [])) N_ (TA N_)
def L79 (N_:Nat):LT:=ad (L78 N_) 264 ⟨[.ptr 0 0,.bool,.roi .u64,.roi .u64],[some (270,1,.cells [.bool,.nil,.bool,.nil])]⟩ [.b,.is,.is,.b,.b] (λS_ c_ neg a b ZX Z3=>S_ neg a b ZX Z3 (λr0 r1 r2 r3=>c_ (.ptr 0 0) [⟨270,1,.cells [.bool r0,vwr r1,.bool r2,vwr r3]⟩])) N_ (TI N_)
def L80 (N_:Nat):LT:=ad (L79 N_) 265 ⟨[.ptr 0 0,.bool,.roi .u64,.slw 1],[some (270,1,.cells [.bool,.nil,.bool,.nil]),some (23,1,.ints .u64)]⟩ [.b,.is,.b,.b,.is] (λS_ c_ neg a b ZX Z3=>S_ neg a b ZX Z3 (λr0 r2=>c_ (.ptr 0 0) [⟨270,1,.cells [.bool r0,vwr a,.bool r2,.slw 1]⟩,⟨23,1,.ints .u64 Z3⟩])) N_ (TO N_)
def L81 (N_:Nat):LT:=ao (L80 N_) 265 ⟨[.ptr 0 0,.bool,.roi .u64,.roi .u64],[some (270,1,.cells [.bool,.nil,.bool,.nil])]⟩ [.b,.is,.is,.b,.b] (λS_ c_ neg a b ZX Z3=>S_ neg a b ZX Z3 (λr0 r2=>c_ (.ptr 0 0) [⟨270,1,.cells [.bool r0,vwr a,.bool r2,vwr b]⟩])) N_ (Tq N_)
def L82 (N_:Nat):LT:=ad (L81 N_) 292 ⟨[.ptr 0 0,.rp [.bool,.roi .u64,.bool,.roi .u64] 0],[some (270,1,.cells [.bool,.nil,.bool,.nil])]⟩ [.b,.is,.b,.is,.b,.b] (λS_ c_ x_0 x_1 x_2 x_3 b ZX=>S_ x_0 x_1 x_2 x_3 b ZX (λr0 r1 r2 r3=>c_ (.ptr 0 0) [⟨270,1,.cells [.bool r0,vwr r1,.bool r2,vwr r3]⟩])) N_ (TS N_)
def L83 (N_:Nat):LT:=ad (L82 N_) 309 ⟨[.roi .u64,.roi .u64],[]⟩ [.is,.is] (λS_ c_ x y=>S_ x y (λr0=>c_ (vwr r0) [])) N_ (MN N_)
def L84 (N_:Nat):LT:=ad (L83 N_) 318 ⟨[.roi .u64,.roi .u64],[]⟩ [.is,.is] (λS_ c_ x y=>S_ x y (λr0=>c_ (vwr r0) [])) N_ (xy N_)
def L85 (N_:Nat):LT:=ad (L84 N_) 310 ⟨[.ptr 0 0,.ptr 0 0,.bool,.roi .u64],[some (264,1,.cells [.bool,.roi .u64])]⟩ [.b,.is,.b,.is] (λS_ c_ neg y b ZX=>S_ neg y b ZX (λr0 r1=>c_ (.ptr 0 0) [⟨264,1,.cells [.bool r0,vwr r1]⟩])) N_ (Tu N_)
def L86 (N_:Nat):LT:=ad (L85 N_) 291 ⟨[.ptr 0 0,.rp [.bool,.roi .u64,.bool,.roi .u64] 0,.ptr 1 0],[some (270,1,.cells [.bool,.nil,.bool,.nil]),some (270,1,.cells [.bool,.roi .u64,.bool,.roi .u64])]⟩ [.b,.is,.b,.is,.b,.b,.b,.is,.b,.is] (λS_ c_ x_0 x_1 x_2 x_3 b ZX Z3 b_3 b_4 b_5=>S_ x_0 x_1 x_2 x_3 b ZX Z3 b_3 b_4 b_5 (λr0 r1 r2 r3=>c_ (.ptr 0 0) [⟨270,1,.cells [.bool r0,vwr r1,.bool r2,vwr r3]⟩,⟨270,1,.cells [.bool Z3,vwr b_3,.bool b_4,vwr b_5]⟩])) N_ (Ts N_)
def L87 (N_:Nat):LT:=ad (L86 N_) 267 ⟨[.ptr 0 0,.rp [.bool,.roi .u64,.bool,.roi .u64] 0,.rp [.bool,.roi .u64,.bool,.roi .u64] 0],[some (270,1,.cells [.bool,.nil,.bool,.nil])]⟩ [.b,.is,.b,.is,.b,.is,.b,.is,.b,.b] (λS_ c_ x_0 x_1 x_2 x_3 y_0 y_1 y_2 y_3 b ZX=>S_ x_0 x_1 x_2 x_3 y_0 y_1 y_2 y_3 b ZX (λr0 r1 r2 r3=>c_ (.ptr 0 0) [⟨270,1,.cells [.bool r0,vwr r1,.bool r2,vwr r3]⟩])) N_ (MV N_)
def L88 (N_:Nat):LT:=ad (L87 N_) 295 ⟨[.ptr 0 0,.bool,.roi .u64,.roi .u64,.roi .u64,.roi .u64],[some (270,1,.cells [.bool,.nil,.bool,.nil])]⟩ [.b,.is,.is,.is,.is,.b,.b] (λS_ c_ neg a b c d ZX Z3=>S_ neg a b c d ZX Z3 (λr0 r1 r2 r3=>c_ (.ptr 0 0) [⟨270,1,.cells [.bool r0,vwr r1,.bool r2,vwr r3]⟩])) N_ (Tn N_)
def L89 (N_:Nat):LT:=ad (L88 N_) 273 ⟨[.ptr 0 0,.rp [.bool,.roi .u64,.bool,.roi .u64] 0,.rp [.bool,.roi .u64,.bool,.roi .u64] 0],[some (270,1,.cells [.bool,.nil,.bool,.nil])]⟩ [.b,.is,.b,.is,.b,.is,.b,.is,.b,.b] (λS_ c_ x_0 x_1 x_2 x_3 y_0 y_1 y_2 y_3 b ZX=>S_ x_0 x_1 x_2 x_3 y_0 y_1 y_2 y_3 b ZX (λr0 r1 r2 r3=>c_ (.ptr 0 0) [⟨270,1,.cells [.bool r0,vwr r1,.bool r2,vwr r3]⟩])) N_ (MU N_)
def L90 (N_:Nat):LT:=ad (L89 N_) 294 ⟨[.ptr 0 0,.rp [.bool,.roi .u64,.bool,.roi .u64] 0,.rp [.bool,.roi .u64,.bool,.roi .u64] 0],[some (270,1,.cells [.bool,.nil,.bool,.nil])]⟩ [.b,.is,.b,.is,.b,.is,.b,.is,.b,.b] (λS_ c_ x_0 x_1 x_2 x_3 y_0 y_1 y_2 y_3 b ZX=>S_ x_0 x_1 x_2 x_3 y_0 y_1 y_2 y_3 b ZX (λr0 r1 r2 r3=>c_ (.ptr 0 0) [⟨270,1,.cells [.bool r0,vwr r1,.bool r2,vwr r3]⟩])) N_ (MT N_)
def L91 (N_:Nat):LT:=ao (L90 N_) 291 ⟨[.ptr 0 0,.rp [.bool,.roi .u64,.bool,.roi .u64] 0,.rp [.bool,.roi .u64,.bool,.roi .u64] 0],[some (270,1,.cells [.bool,.nil,.bool,.nil])]⟩ [.b,.is,.b,.is,.b,.is,.b,.is,.b,.b] (λS_ c_ x_0 x_1 x_2 x_3 y_0 y_1 y_2 y_3 b ZX=>S_ x_0 x_1 x_2 x_3 y_0 y_1 y_2 y_3 b ZX (λr0 r1 r2 r3=>c_ (.ptr 0 0) [⟨270,1,.cells [.bool r0,vwr r1,.bool r2,vwr r3]⟩])) N_ (Qm N_)
def L92 (N_:Nat):LT:=ad (L91 N_) 134 ⟨[.int .i64,.int .i64,.fn 220 []],[]⟩ [.i,.i] (λS_ c_ rows cols=>S_ rows cols (λr2=>c_ (.agg [vwi rows,vwi cols,.slw 0]) [⟨36,1,.flts r2⟩])) N_ (Na N_)
def L93 (N_:Nat):LT:=ad1 2 (L92 N_) 187 ⟨[.flt,.ptr 0 0],[some (171,1,.cells [.ptr 1 0]),some (173,1,.cells [.bool])]⟩ [.f,.b] (λS_ c_ d b=>S_ d b (λr0 r1=>c_ (.tup [.flt r0,vwi r1]) (.any))) N_ (eh N_)
def L94 (N_:Nat):LT:=ad (L93 N_) 223 ⟨[.agg [.int .i64,.int .i64,.rof],.int .i64],[]⟩ [.i,.i,.fs,.i] (λS_ c_ m_0 Z0 Z7 j=>S_ m_0 Z0 Z7 j (λr0=>c_ (.slw 0) [⟨36,1,.flts r0⟩])) N_ (qo N_)
def L95 (N_:Nat):LT:=ao (L94 N_) 134 ⟨[.int .i64,.int .i64,.fn 224 []],[]⟩ [.i,.i] (λS_ c_ rows cols=>S_ rows cols (λr2=>c_ (.agg [vwi rows,vwi cols,.slw 0]) [⟨36,1,.flts r2⟩])) N_ (Th N_)
def L96 (N_:Nat):LT:=ad (L95 N_) 196 ⟨[.int .i64,.fn 197 [.ptr 0 0]],[some (28,1,.cells [.int .i64,.int .i64,.rof])]⟩ [.i,.i,.i,.fs] (λS_ c_ n b ZX Z3=>S_ n b ZX Z3 (λr5=>c_ (.agg [vwi n,vwi n,.slw 1]) [⟨28,1,.cells [vwi b,vwi ZX,.rof Z3]⟩,⟨36,1,.flts r5⟩])) N_ (TC N_)
def L97 (N_:Nat):LT:=ad (L96 N_) 168 ⟨[.flt],[]⟩ [.f] (λS_ c_ x=>S_ x (λr0 r1 r2=>c_ (.tup [.bool r0,vwi r1,vwu r2]) [])) N_ (su N_)
def L98 (N_:Nat):LT:=ad (L97 N_) 138 ⟨[.flt,.flt],[]⟩ [.f,.f] (λS_ c_ a b=>S_ a b (λr0=>c_ (.bool r0) [])) N_ (vA N_)
def L99 (N_:Nat):LT:=ad (L98 N_) 112 ⟨[.flt],[]⟩ [.f] (λS_ c_ x=>S_ x (λr0 r1 r2 r3=>c_ (.tup [.agg [.bool r0,vwu r1,vwi r2],vwi r3]) [])) N_ (sr N_)
def T0 (N_:Nat):LT:=ad (L99 N_) 113 ⟨[.ptr 0 0,.int .u64],[some (158,1,.cells [.bool,.nil])]⟩ [.i,.b] (λS_ c_ n b=>S_ n b (λr0 r1=>c_ (.ptr 0 0) [⟨158,1,.cells [.bool r0,vws r1]⟩])) N_ (TH N_)
def T1 (N_:Nat):LT:=ad (T0 N_) 114 ⟨[.ptr 0 0,.ptr 0 0],[some (158,1,.cells [.bool,.roi .u32])]⟩ [.b,.is] (λS_ c_ b ZX=>S_ b ZX (λr0 r1=>c_ (.ptr 0 0) [⟨158,1,.cells [.bool r0,vws r1]⟩])) N_ (Nq N_)
def T2 (N_:Nat):LT:=ad (T1 N_) 66 ⟨[.flt],[]⟩ [.f] (λS_ c_ x=>S_ x (λr0 r1 r2=>c_ (.agg [.ptr 0 0,vwi r0]) [⟨158,1,.cells [.bool r1,vws r2]⟩])) N_ (Ah N_)
def NJ (N_:Nat):LT:=ad (T2 N_) 174 ⟨[.ptr 0 0,.ptr 1 0,.int .u64],[some (158,1,.cells [.bool,.nil]),some (158,1,.cells [.bool,.roi .u32])]⟩ [.i,.b,.b,.is] (λS_ c_ n b ZX Z3=>S_ n b ZX Z3 (λr0 r1=>c_ (.ptr 0 0) [⟨158,1,.cells [.bool r0,vws r1]⟩,⟨158,1,.cells [.bool ZX,vws Z3]⟩])) N_ (MZ N_)
def X2 (N_:Nat):LT:=ad (NJ N_) 210 ⟨[.roi .u32,.int .u64],[]⟩ [.is,.i] (λS_ c_ m n=>S_ m n (c_ (.nil) []) (λr0 r1=>c_ (.sl 0 0 r0) [⟨238,1,.ints .u32 r1⟩])) N_ (MO N_)
def T3 (N_:Nat):LT:=ad (NJ N_) 257 ⟨[.roi .u32,.roi .u32],[]⟩ [.is,.is] (λS_ c_ a b=>S_ a b (λr0 r1=>c_ (.tup [vws r0,vws r1]) [])) N_ (EY N_)
def T4 (N_:Nat):LT:=ad (T3 N_) 256 ⟨[.roi .u32,.roi .u32],[]⟩ [.is,.is] (λS_ c_ a b=>S_ a b (λr0=>c_ (vws r0) [])) N_ (Nr N_)
def T5 (N_:Nat):LT:=ad (T4 N_) 229 ⟨[.ptr 0 0,.bool,.roi .u32,.roi .u32],[some (235,1,.cells [.bool,.nil,.bool,.nil])]⟩ [.b,.is,.is,.b,.b] (λS_ c_ neg a b ZX Z3=>S_ neg a b ZX Z3 (λr0 r1 r2 r3=>c_ (.ptr 0 0) [⟨235,1,.cells [.bool r0,vws r1,.bool r2,vws r3]⟩])) N_ (Tm N_)
def T6 (N_:Nat):LT:=ad (T5 N_) 176 ⟨[.ptr 0 0,.int .i64],[some (158,1,.cells [.bool,.nil])]⟩ [.i,.b] (λS_ c_ n b=>S_ n b (λr0 r1=>c_ (.ptr 0 0) [⟨158,1,.cells [.bool r0,vws r1]⟩])) N_ (M7 N_)
def T7 (N_:Nat):LT:=ad1 2 (T6 N_) 230 ⟨[.rp [.bool,.roi .u32,.bool,.roi .u32] 0],[]⟩ [.b,.is,.b,.is] (λS_ c_ r_0 r_1 r_2 r_3=>S_ r_0 r_1 r_2 r_3 (λr0=>c_ (vws r0) (.any))) N_ (M5 N_)
def T8 (N_:Nat):LT:=ad (T7 N_) 226 ⟨[.ptr 0 0,.rp [.bool,.roi .u32,.bool,.roi .u32] 0],[some (235,1,.cells [.bool,.roi .u32,.bool,.roi .u32])]⟩ [.b,.is,.b,.is,.b,.is,.b,.is] (λS_ c_ x_0 x_1 x_2 x_3 b ZX Z3 b_3=>S_ x_0 x_1 x_2 x_3 b ZX Z3 b_3 (λr0 r1 r2 r3=>c_ (.ptr 0 0) [⟨235,1,.cells [.bool r0,vws r1,.bool r2,vws r3]⟩])) N_ (TU N_)
def T9 (N_:Nat):LT:=ad (T8 N_) 200 ⟨[.agg [.int .i64,.int .i64,.rl RT2]],[]⟩ [.i,.i,.r RT2] (λS_ c_ m_0 Z0 Z7=>S_ m_0 Z0 Z7 (λr2=>c_ (.agg [vwi m_0,vwi Z0,.slw 0]) [⟨231,1,.own 235 RT1 r2 []⟩])) N_ (TT N_)
def T_ (N_:Nat):LT:=ao1 2 (T9 N_) 230 ⟨[.ptr 0 0],[some (235,1,.cells [.bool,.roi .u32,.bool,.roi .u32])]⟩ [.b,.is,.b,.is] (λS_ c_ b ZX Z3 b_3=>S_ b ZX Z3 b_3 (λr0=>c_ (vws r0) (.any))) N_ (GQ5 N_)
def Ua (N_:Nat):LT:=ad (T_ N_) 204 ⟨[.ptr 0 0,.ptr 1 0,.ptr 2 0],[some (235,1,.cells [.bool,.nil,.bool,.nil]),some (235,1,.cells [.bool,.roi .u32,.bool,.roi .u32]),some (235,1,.cells [.bool,.roi .u32,.bool,.roi .u32])]⟩ [.b,.b,.b,.is,.b,.is,.b,.is,.b,.is] (λS_ c_ b ZX Z3 b_3 b_4 b_5 b_6 b_7 b_8 b_9=>S_ b ZX Z3 b_3 b_4 b_5 b_6 b_7 b_8 b_9 (λr0 r1 r2 r3=>c_ (.ptr 0 0) [⟨235,1,.cells [.bool r0,vws r1,.bool r2,vws r3]⟩,⟨235,1,.cells [.bool Z3,vws b_3,.bool b_4,vws b_5]⟩,⟨235,1,.cells [.bool b_6,vws b_7,.bool b_8,vws b_9]⟩])) N_ (Tj N_)
def Ub (N_:Nat):LT:=ad (Ua N_) 228 ⟨[.ptr 0 0,.ptr 1 0,.ptr 2 0],[some (235,1,.cells [.bool,.nil,.bool,.nil]),some (235,1,.cells [.bool,.roi .u32,.bool,.roi .u32]),some (235,1,.cells [.bool,.roi .u32,.bool,.roi .u32])]⟩ [.b,.b,.b,.is,.b,.is,.b,.is,.b,.is] (λS_ c_ b ZX Z3 b_3 b_4 b_5 b_6 b_7 b_8 b_9=>S_ b ZX Z3 b_3 b_4 b_5 b_6 b_7 b_8 b_9 (λr0 r1 r2 r3=>c_ (.ptr 0 0) [⟨235,1,.cells [.bool r0,vws r1,.bool r2,vws r3]⟩,⟨235,1,.cells [.bool Z3,vws b_3,.bool b_4,vws b_5]⟩,⟨235,1,.cells [.bool b_6,vws b_7,.bool b_8,vws b_9]⟩])) N_ (Ti N_)
def Uc (N_:Nat):LT:=ad (Ub N_) 249 ⟨[.ptr 0 0,.ptr 1 0],[some (235,1,.cells [.bool,.roi .u32,.bool,.roi .u32]),some (235,1,.cells [.bool,.roi .u32,.bool,.roi .u32])]⟩ [.b,.is,.b,.is,.b,.is,.b,.is] (λS_ c_ b ZX Z3 b_3 b_4 b_5 b_6 b_7=>S_ b ZX Z3 b_3 b_4 b_5 b_6 b_7 (λr9 r11=>c_ (.tup [.ptr 2 0,.ptr 3 0]) [⟨235,1,.cells [.bool b,vws ZX,.bool Z3,vws b_3]⟩,⟨235,1,.cells [.bool b_4,vws b_5,.bool b_6,vws b_7]⟩,⟨158,1,.cells [.bool b,vws r9]⟩,⟨158,1,.cells [.bool b_4,vws r11]⟩])) N_ (TP N_)
def Ud (N_:Nat):LT:=ad (Uc N_) 173 ⟨[.ptr 0 0,.ptr 1 0,.ptr 2 0,.bool],[some (158,1,.cells [.bool,.nil]),some (158,1,.cells [.bool,.roi .u32]),some (158,1,.cells [.bool,.roi .u32])]⟩ [.b,.b,.b,.is,.b,.is] (λS_ c_ turn b ZX Z3 b_3 b_4=>S_ turn b ZX Z3 b_3 b_4 (λr0 r1=>c_ (.ptr 0 0) [⟨158,1,.cells [.bool r0,vws r1]⟩,⟨158,1,.cells [.bool ZX,vws Z3]⟩,⟨158,1,.cells [.bool b_3,vws b_4]⟩])) N_ (TW N_)
def Ue (N_:Nat):LT:=ao (Ud N_) 229 ⟨[.ptr 0 0,.bool,.roi .u32,.roi .u32],[some (235,1,.cells [.bool,.roi .u32,.bool,.roi .u32])]⟩ [.b,.is,.is,.b,.is,.b,.is] (λS_ c_ neg a b ZX Z3 b_3 b_4=>S_ neg a b ZX Z3 b_3 b_4 (λr0 r1 r2 r3=>c_ (.ptr 0 0) [⟨235,1,.cells [.bool r0,vws r1,.bool r2,vws r3]⟩])) N_ (TJ N_)
def Uf (N_:Nat):LT:=ad (Ue N_) 151 ⟨[.int .i64],[]⟩ [.i] (λS_ c_ n=>S_ n (λr2=>c_ (.agg [vwi n,vwi n,.rof r2]) [])) N_ (vD N_)
def Ug (N_:Nat):LT:=ad (Uf N_) 199 ⟨[.agg [.int .i64,.int .i64,.rof],.int .i64],[]⟩ [.i,.i,.fs,.i] (λS_ c_ m_0 Z0 Z7 j=>S_ m_0 Z0 Z7 j (λr0=>c_ (.rof r0) [])) N_ (qq N_)
def Uh (N_:Nat):LT:=ad (Ug N_) 152 ⟨[.agg [.int .i64,.int .i64,.rof]],[]⟩ [.i,.i,.fs] (λS_ c_ m_0 Z0 Z7=>S_ m_0 Z0 Z7 (λr2=>c_ (.agg [vwi m_0,vwi Z0,.rof r2]) [])) N_ (M6 N_)
def Ui (N_:Nat):LT:=ad (Uh N_) 88 ⟨[.agg [.int .i64,.int .i64,.rof]],[]⟩ [.i,.i,.fs] (λS_ c_ m_0 Z0 Z7=>S_ m_0 Z0 Z7 (λr2=>c_ (.agg [vwi Z0,vwi m_0,.rof r2]) [])) N_ (Nx N_)
def Uj (N_:Nat):LT:=ad (Ui N_) 101 ⟨[.rof,.rof],[]⟩ [.fs,.fs] (λS_ c_ a b=>S_ a b (λr0=>c_ (.bool r0) [])) N_ (Tv N_)
def Uk (N_:Nat):LT:=ad (Uj N_) 38 ⟨[.agg [.rof,.int .i64,.int .i64,.rof],.agg [.rof,.int .i64,.int .i64,.rof]],[]⟩ [.fs,.i,.i,.fs,.fs,.i,.i,.fs] (λS_ c_ Z9 Z4 a_2 a_3 b_0 ZX Z3 b_3=>S_ Z9 Z4 a_2 a_3 b_0 ZX Z3 b_3 (λr0=>c_ (.bool r0) [])) N_ (TB N_)
def Ul (N_:Nat):LT:=ao (Uk N_) 134 ⟨[.int .i64,.int .i64,.fn 135 [.ptr 0 0]],[some (28,1,.cells [.int .i64,.int .i64,.rof])]⟩ [.i,.i,.i,.i,.fs] (λS_ c_ rows cols b ZX Z3=>S_ rows cols b ZX Z3 (λr5=>c_ (.agg [vwi rows,vwi cols,.slw 1]) [⟨28,1,.cells [vwi b,vwi ZX,.rof Z3]⟩,⟨36,1,.flts r5⟩])) N_ (M4 N_)
def Um (N_:Nat):LT:=ao (Ul N_) 152 ⟨[.agg [.int .i64,.int .i64,.slw 0]],[some (36,1,.flts)]⟩ [.i,.i,.fs] (λS_ c_ m_0 Z0 b=>S_ m_0 Z0 b (λr2=>c_ (.agg [vwi m_0,vwi Z0,.rof r2]) [⟨36,1,.flts b⟩])) N_ (Nm N_)
def Un (N_:Nat):LT:=upM Pg kc N_ fmd (Um N_) [251,275,120,274,117,52,108,139,193,270,271,247,243,240,239,238,179]
def Uo (N_:Nat):LT:=ad (Un N_) 211 ⟨[.int .u64,.agg [.int .u64,.int .i64,.int .i64]],[]⟩ [.i,.i,.i,.i] (λS_ c_ b f_0 f_1 f_2=>S_ b f_0 f_1 f_2 (λr0 r1 r2=>c_ (.tup [.bool r0,vwi r1,vwu r2]) [])) N_ (TF N_)
def NK (N_:Nat):LT:=ad (Uo N_) 177 ⟨[.int .u64,.agg [.int .u64,.int .i64,.int .i64]],[]⟩ [.i,.i,.i,.i] (λS_ c_ b f_0 f_1 f_2=>S_ b f_0 f_1 f_2 (λr0=>c_ (vwi r0) [])) N_ (TE N_)
def WD:FnSh:=⟨[.flt],[]⟩
def P5 (ad3:NO):SPT:=λa_ c_=>match a_ with
 | [.fl x]=>ad3 x (λr0=>c_ (vwi r0) [])
 | _=>false
abbrev WV (ad3:NO):Fs:=fD WD (P5 ad3)
def Up (N_:Nat):LT:=(122,(WV (PV N_)))::NK N_
def S3:FnSh:=⟨[.fb],[]⟩
def WG (SQ6:Xl):SPT:=λa_ c_=>match a_ with
 | [.nat x]=>SQ6 x (λr0=>c_ (vwi r0) [])
 | _=>false
abbrev FQ6 (SQ6:Xl):Fs:=fD S3 (WG SQ6)
def Uq (N_:Nat):LT:=ad (Up N_) 75 ⟨[.rof],[]⟩ [.fs] (λS_ c_ l=>S_ l (λr0=>c_ (.bool r0) [])) N_ (Nh N_)
def NL (N_:Nat):LT:=ad (Uq N_) 74 ⟨[.agg [.int .i64,.int .i64,.rof]],[]⟩ [.i,.i,.fs] (λS_ c_ m_0 Z0 Z7=>S_ m_0 Z0 Z7 (λr0=>c_ (vwi r0) [])) N_ (Qj N_)
def WE:FnSh:=⟨[.flt,.flt],[]⟩
def P7 (ad5:NP):SPT:=λa_ c_=>match a_ with
 | [.fl a,.fl b]=>ad5 a b (λr0=>c_ (.bool r0) [])
 | _=>false
abbrev WW (ad5:NP):Fs:=fD WE (P7 ad5)
def Ur (N_:Nat):LT:=(123,(WW (I1 N_)))::NL N_
def S4:FnSh:=⟨[.fb,.fb],[]⟩
def WH (SQ7:Xm):SPT:=λa_ c_=>match a_ with
 | [.nat a,.nat b]=>SQ7 a b (λr0=>c_ (.bool r0) [])
 | _=>false
abbrev FQ7 (SQ7:Xm):Fs:=fD S4 (WH SQ7)
def Us (N_:Nat):LT:=ad (Ur N_) 76 ⟨[.agg [.int .i64,.int .i64,.rof]],[]⟩ [.i,.i,.fs] (λS_ c_ m_0 Z0 Z7=>S_ m_0 Z0 Z7 (λr0=>c_ (.bool r0) [])) N_ (TG N_)
def Ut (N_:Nat):LT:=ad (Us N_) 258 ⟨[.int .u64,.agg [.int .u64,.int .i64,.int .i64]],[]⟩ [.i,.i,.i,.i] (λS_ c_ b f_0 f_1 f_2=>S_ b f_0 f_1 f_2 (λr0 r1 r2 r3=>c_ (.tup [.agg [.bool r0,vwu r1,vwi r2],vwi r3]) [])) N_ (TR N_)
def Uu (N_:Nat):LT:=ad (Ut N_) 216 ⟨[.agg [.int .i64,.int .i64,.slw 0]],[some (249,1,.recs RT0)]⟩ [.i,.i,.r RT0] (λS_ c_ g_0 g_1 b=>S_ g_0 g_1 b (c_ (.tup []) [⟨249,1,.recs RT0 b⟩])) N_ (cJ N_)
def Uv (N_:Nat):LT:=ad (Uu N_) 272 ⟨[.int .i64,.int .i64],[]⟩ [.i,.i] (λS_ c_ a b=>S_ a b (λr0 r1 r2 r3=>c_ (.ptr 0 0) [⟨270,1,.cells [.bool r0,vwr r1,.bool r2,vwr r3]⟩])) N_ (qf N_)
def Uw (N_:Nat):LT:=ad (Uv N_) 245 ⟨[.agg [.int .i64,.int .i64,.slw 0],.int .i64,.int .i64,.agg [.rp [.bool,.roi .u64,.bool,.roi .u64] 0]],[some (249,1,.recs RT0)]⟩ [.i,.i,.i,.i,.b,.is,.b,.is,.r RT0] (λS_ c_ g_0 g_1 i k_ x_0 x_1 x_2 x_3 b=>S_ g_0 g_1 i k_ x_0 x_1 x_2 x_3 b (λr0=>c_ (.tup []) [⟨249,1,.recs RT0 r0⟩])) N_ (eK N_)
def Ux (N_:Nat):LT:=ad (Uw N_) 142 ⟨[.agg [.int .i64,.int .i64,.rof]],[]⟩ [.i,.i,.fs] (λS_ c_ Z9 Z4 a_2=>S_ Z9 Z4 a_2 (λr0=>c_ (vwi r0) [])) N_ (se N_)
def Uy (N_:Nat):LT:=ad (Ux N_) 126 ⟨[.agg [.int .i64,.int .i64,.rof]],[]⟩ [.i,.i,.fs] (λS_ c_ Z9 Z4 a_2=>S_ Z9 Z4 a_2 (λr0=>c_ (vwi r0) [])) N_ (pj N_)
def Uz (N_:Nat):LT:=ad (Uy N_) 194 ⟨[.agg [.int .i64,.int .i64,.rof],.int .i64],[]⟩ [.i,.i,.fs,.i] (λS_ c_ m_0 Z0 Z7 j=>S_ m_0 Z0 Z7 j (λr0 r1=>c_ (.tup [.rof r0,vwi r1]) [])) N_ (qn N_)
def UA (N_:Nat):LT:=ad (Uz N_) 143 ⟨[.int .i64,.rof],[]⟩ [.i,.fs] (λS_ c_ rows b=>S_ rows b (λr0=>c_ (vwi r0) [])) N_ (sf N_)
def UB (N_:Nat):LT:=ad (UA N_) 86 ⟨[.rof],[]⟩ [.fs] (λS_ c_ l=>S_ l (λr0=>c_ (.bool r0) [])) N_ (TK N_)
def UC (N_:Nat):LT:=ad (UB N_) 137 ⟨[.agg [.int .i64,.int .i64,.rof]],[]⟩ [.i,.i,.fs] (λS_ c_ m_0 Z0 Z7=>S_ m_0 Z0 Z7 (λr0=>c_ (vwi r0) [])) N_ (vB N_)
def UD (N_:Nat):LT:=ad (UC N_) 82 ⟨[.agg [.int .i64,.int .i64,.rof]],[]⟩ [.i,.i,.fs] (λS_ c_ m_0 Z0 Z7=>S_ m_0 Z0 Z7 (λr0=>c_ (vwi r0) [])) N_ (Qo N_)
def UE (N_:Nat):LT:=ad (UD N_) 248 ⟨[.agg [.ptr 0 0,.int .i64]],[some (158,1,.cells [.bool,.roi .u32])]⟩ [.i,.b,.is] (λS_ c_ x b ZX=>S_ x b ZX (λr2 r3 r4 r5=>c_ (.ptr 1 0) [⟨158,1,.cells [.bool b,vws ZX]⟩,⟨235,1,.cells [.bool r2,vws r3,.bool r4,vws r5]⟩])) N_ (TQ N_)
def UF (N_:Nat):LT:=ad (UE N_) 227 ⟨[.ptr 0 0,.ptr 0 0,.ptr 1 0],[some (235,1,.cells [.bool,.roi .u32,.bool,.roi .u32]),some (235,1,.cells [.bool,.roi .u32,.bool,.roi .u32])]⟩ [.b,.is,.b,.is,.b,.is,.b,.is] (λS_ c_ b ZX Z3 b_3 b_4 b_5 b_6 b_7=>S_ b ZX Z3 b_3 b_4 b_5 b_6 b_7 (λr0 r1 r2 r3=>c_ (.ptr 0 0) [⟨235,1,.cells [.bool r0,vws r1,.bool r2,vws r3]⟩,⟨235,1,.cells [.bool b_4,vws b_5,.bool b_6,vws b_7]⟩])) N_ (To N_)
def UG (N_:Nat):LT:=ad (UF N_) 203 ⟨[.agg [.int .i64,.int .i64,.slw 0],.int .i64,.int .i64,.ptr 1 0],[some (231,1,.own 235 RT1),some (235,1,.cells [.bool,.roi .u32,.bool,.roi .u32])]⟩ [.i,.i,.i,.i,.r RT1,.b,.is,.b,.is] (λS_ c_ m_0 Z0 i k_ b ZX Z3 b_3 b_4=>S_ m_0 Z0 i k_ b ZX Z3 b_3 b_4 (λr0=>c_ (.tup []) [⟨231,1,.own 235 RT1 r0 []⟩,⟨235,1,.cells [.bool ZX,vws Z3,.bool b_3,vws b_4]⟩])) N_ (Tt N_)
def UH (N_:Nat):LT:=ad (UG N_) 154 ⟨[.agg [.int .i64,.int .i64,.rl RT2]],[]⟩ [.i,.i,.r RT2] (λS_ c_ m_0 Z0 Z7=>S_ m_0 Z0 Z7 (λr0=>c_ (vwi r0) [])) N_ (Nf N_)
def UI (N_:Nat):LT:=ad (UH N_) 149 ⟨[.agg [.int .i64,.int .i64,.rof]],[]⟩ [.i,.i,.fs] (λS_ c_ Z9 Z4 a_2=>S_ Z9 Z4 a_2 (λr0=>c_ (vwi r0) [])) N_ (Ns N_)
def UJ (N_:Nat):LT:=ad (UI N_) 55 ⟨[.ptr 0 0,.flt],[some (100,1,.cells [.bool])]⟩ [.f,.b] (λS_ c_ x b=>S_ x b (λr1=>c_ (.flt x) [⟨100,1,.cells [.bool r1]⟩])) N_ (Nd N_)
def UK (N_:Nat):LT:=ad (UJ N_) 102 ⟨[.agg [.int .i64,.int .i64,.rof]],[]⟩ [.i,.i,.fs] (λS_ c_ Z9 Z4 a_2=>S_ Z9 Z4 a_2 (λr0 r1 r2 r3 r4=>c_ (.tup [.agg [vwi r0,vwi r1,.rof r2],vwi r3,vwi r4]) [])) N_ (vC N_)
def UL (N_:Nat):LT:=ad (UK N_) 165 ⟨[.agg [.int .i64,.int .i64,.rof],.rof,.ptr 0 0],[some (100,1,.cells [.bool])]⟩ [.i,.i,.fs,.fs,.b] (λS_ c_ l_0 l_1 l_2 b ZX=>S_ l_0 l_1 l_2 b ZX (λr0 r1=>c_ (.rof r0) [⟨100,1,.cells [.bool r1]⟩])) N_ (MR N_)
def UM (N_:Nat):LT:=ad (UL N_) 164 ⟨[.agg [.int .i64,.int .i64,.rof],.rof,.ptr 0 0],[some (100,1,.cells [.bool])]⟩ [.i,.i,.fs,.fs,.b] (λS_ c_ l_0 l_1 l_2 b ZX=>S_ l_0 l_1 l_2 b ZX (λr0 r1=>c_ (.rof r0) [⟨100,1,.cells [.bool r1]⟩])) N_ (MS N_)
def UN (N_:Nat):LT:=ad (UM N_) 150 ⟨[.agg [.int .i64,.int .i64,.rof],.agg [.int .i64,.int .i64,.rof]],[]⟩ [.i,.i,.fs,.i,.i,.fs] (λS_ c_ Z9 Z4 a_2 b_0 ZX Z3=>S_ Z9 Z4 a_2 b_0 ZX Z3 (λr0 r1 r2 r3 r4=>c_ (.tup [.agg [vwi r0,vwi r1,.rof r2],vwi r3,vwi r4]) [])) N_ (Np N_)
def UO (N_:Nat):LT:=ad (UN N_) 94 ⟨[.agg [.int .i64,.int .i64,.rof]],[]⟩ [.i,.i,.fs] (λS_ c_ Z9 Z4 a_2=>S_ Z9 Z4 a_2 (λr0 r1 r2 r3 r4=>c_ (.tup [.agg [vwi r0,vwi r1,.rof r2],vwi r3,vwi r4]) [])) N_ (Nz N_)
def UP (N_:Nat):LT:=ad (UO N_) 163 ⟨[.agg [.int .i64,.int .i64,.rof],.rof],[]⟩ [.i,.i,.fs,.fs] (λS_ c_ l_0 l_1 l_2 b=>S_ l_0 l_1 l_2 b (λr0=>c_ (vwi r0) [])) N_ (vF N_)
def UQ (N_:Nat):LT:=ad (UP N_) 100 ⟨[.agg [.int .i64,.int .i64,.rof],.rof],[]⟩ [.i,.i,.fs,.fs] (λS_ c_ Z9 Z4 a_2 b=>S_ Z9 Z4 a_2 b (λr0 r1 r2=>c_ (.tup [.rof r0,vwi r1,vwi r2]) [])) N_ (sy N_)
def UR (N_:Nat):LT:=ad (UQ N_) 37 ⟨[.agg [.int .i64,.int .i64,.rof,.rof]],[]⟩ [.i,.i,.fs,.fs] (λS_ c_ Z9 Z4 a_2 a_3=>S_ Z9 Z4 a_2 a_3 (λr0=>c_ (vwi r0) [])) N_ (lq N_)
def US (N_:Nat):LT:=ad (UR N_) 87 ⟨[.agg [.int .i64,.int .i64,.rof]],[]⟩ [.i,.i,.fs] (λS_ c_ m_0 Z0 Z7=>S_ m_0 Z0 Z7 (λr0=>c_ (vwi r0) [])) N_ (Qn N_)
def UT (N_:Nat):LT:=ad (US N_) 198 ⟨[.agg [.int .i64,.int .i64,.rof]],[]⟩ [.i,.i,.fs] (λS_ c_ m_0 Z0 Z7=>S_ m_0 Z0 Z7 (λr0=>c_ (.bool r0) [])) N_ (Nj N_)
def UU (N_:Nat):LT:=ad (UT N_) 145 ⟨[.agg [.int .i64,.int .i64,.rof]],[]⟩ [.i,.i,.fs] (λS_ c_ l_0 l_1 l_2=>S_ l_0 l_1 l_2 (λr0=>c_ (vwi r0) [])) N_ (mO N_)
def UV (N_:Nat):LT:=ad (UU N_) 103 ⟨[.agg [.int .i64,.int .i64,.rof],.rof],[]⟩ [.i,.i,.fs,.fs] (λS_ c_ l_0 l_1 l_2 b=>S_ l_0 l_1 l_2 b (λr0 r1=>c_ (.tup [.rof r0,vwi r1]) [])) N_ (sx N_)
def UW (N_:Nat):LT:=ad (UV N_) 96 ⟨[.ptr 0 0,.rof,.rof],[some (100,1,.cells [.bool])]⟩ [.fs,.fs,.b] (λS_ c_ a b ZX=>S_ a b ZX (λr0 r1=>c_ (.flt r0) [⟨100,1,.cells [.bool r1]⟩])) N_ (sF N_)
def UX (N_:Nat):LT:=ad (UW N_) 104 ⟨[.agg [.int .i64,.int .i64,.rof]],[]⟩ [.i,.i,.fs] (λS_ c_ l_0 l_1 l_2=>S_ l_0 l_1 l_2 (λr0 r1 r2 r3=>c_ (.tup [.agg [vwi r0,vwi r1,.rof r2],vwi r3]) [])) N_ (qr N_)
def UY (N_:Nat):LT:=ad (UX N_) 106 ⟨[.agg [.int .i64,.int .i64,.rof],.rof],[]⟩ [.i,.i,.fs,.fs] (λS_ c_ l_0 l_1 l_2 b=>S_ l_0 l_1 l_2 b (λr0 r1=>c_ (.tup [.rof r0,vwi r1]) [])) N_ (sA N_)
def UZ (N_:Nat):LT:=upM Pg kc N_ fmd (UY N_) [80,218,85,195,186,147,146,246,234]
def U0 (N_:Nat):LT:=ad (UZ N_) 215 ⟨[.flt],[]⟩ [.f] (λS_ c_ x=>S_ x (λr0 r1 r2 r3=>c_ (.agg [.rp [.bool r0,vwr r1,.bool r2,vwr r3] 0]) [])) N_ (jU N_)
def U2 (N_:Nat):LT:=ad (U0 N_) 182 ⟨[.agg [.int .i64,.int .i64,.rof]],[]⟩ [.i,.i,.fs] (λS_ c_ m_0 Z0 Z7=>S_ m_0 Z0 Z7 (λr2=>c_ (.agg [vwi m_0,vwi Z0,.slw 0]) [⟨249,1,.recs RT0 r2⟩])) N_ (jg N_)
def U4 (N_:Nat):LT:=ad (U2 N_) 217 ⟨[.agg [.int .i64,.int .i64,.slw 0]],[some (249,1,.recs RT0)]⟩ [.i,.i,.r RT0] (λS_ c_ g_0 g_1 b=>S_ g_0 g_1 b (λr0 r1=>c_ (vwi r0) [⟨249,1,.recs RT0 r1⟩])) N_ (db N_)
def U5 (N_:Nat):LT:=ad1 4 (U4 N_) 185 ⟨[.flt,.flt,.flt,.int .i64,.ptr 0 0],[some (171,1,.cells [.ptr 1 0]),some (173,1,.cells [.bool])]⟩ [.f,.f,.f,.i,.b] (λS_ c_ t a b v_ ZX=>S_ t a b v_ ZX (λr0 r1=>c_ (.flt r0) (.bool r1))) N_ (eg N_)
def U6 (N_:Nat):LT:=ad1 10 (U5 N_) 184 ⟨[.int .i64,.int .i64,.ptr 0 0,.ptr 1 0,.ptr 2 0,.ptr 3 0],[some (176,1,.cells [.fn 128 [.ptr 4 0]]),some (26,1,.cells [.slw 5]),some (3,1,.cells [.int .i64]),some (180,1,.cells [.fn 185 [.ptr 6 0],.fn 187 [.ptr 6 0],.fn 188 [.ptr 6 0]]),some (28,1,.cells [.int .i64,.int .i64,.rof]),some (36,1,.flts),some (171,1,.cells [.ptr 7 0]),some (173,1,.cells [.bool])]⟩ [.i,.i,.i,.i,.i,.fs,.fs,.b] (λS_ c_ i j b ZX Z3 b_3 b_4 b_5=>S_ i j b ZX Z3 b_3 b_4 b_5 (λr0 r6=>c_ (.flt r0) (.bool r6))) N_ (bG N_)
def U7 (N_:Nat):LT:=ad1 4 (U6 N_) 188 ⟨[.flt,.flt,.ptr 0 0],[some (171,1,.cells [.ptr 1 0]),some (173,1,.cells [.bool])]⟩ [.f,.f,.b] (λS_ c_ t head b=>S_ t head b (λr0 r1=>c_ (.flt r0) (.bool r1))) N_ (ek N_)
def U8 (N_:Nat):LT:=ad (U7 N_) 127 ⟨[.int .i64,.fn 128 [.ptr 0 0],.agg [.fn 185 [.ptr 1 0],.fn 187 [.ptr 1 0],.fn 188 [.ptr 1 0]]],[some (28,1,.cells [.int .i64,.int .i64,.rof]),some (171,1,.cells [.ptr 2 0]),some (173,1,.cells [.bool])]⟩ [.i,.i,.i,.fs,.b] (λS_ c_ n b ZX Z3 b_3=>S_ n b ZX Z3 b_3 (λr0 r1 r5 r6=>c_ (.tup [.nil,.slw 3,vwi r0,vwi r1]) [⟨28,1,.cells [vwi b,vwi ZX,.rof Z3]⟩,⟨171,1,.cells [.ptr 2 0]⟩,⟨173,1,.cells [.bool r5]⟩,⟨36,1,.flts r6⟩]) (λr0 r1 r5 r6 r7=>c_ (.tup [.slw 3,.slw 4,vwi r0,vwi r1]) [⟨28,1,.cells [vwi b,vwi ZX,.rof Z3]⟩,⟨171,1,.cells [.ptr 2 0]⟩,⟨173,1,.cells [.bool r5]⟩,⟨36,1,.flts r6⟩,⟨36,1,.flts r7⟩])) N_ (da N_)
def U9 (N_:Nat):LT:=ad (U8 N_) 78 ⟨[.agg [.int .i64,.int .i64,.rof]],[]⟩ [.i,.i,.fs] (λS_ c_ Z9 Z4 a_2=>S_ Z9 Z4 a_2 (λr0 r1 r2 r3 r4=>c_ (.tup [.agg [vwi r0,vwi r1,.rof r2],vwi r3,vwi r4]) [])) N_ (sb N_)
def U_ (N_:Nat):LT:=ad (U9 N_) 133 ⟨[.ptr 0 0,.agg [.int .i64,.int .i64,.rof],.rof],[some (173,1,.cells [.bool])]⟩ [.i,.i,.fs,.fs,.b] (λS_ c_ l_0 l_1 l_2 b ZX=>S_ l_0 l_1 l_2 b ZX (λr0 r1=>c_ (.rof r0) [⟨173,1,.cells [.bool r1]⟩])) N_ (ig N_)
def Va (N_:Nat):LT:=ad (U_ N_) 144 ⟨[.ptr 0 0,.agg [.int .i64,.int .i64,.rof],.rof],[some (173,1,.cells [.bool])]⟩ [.i,.i,.fs,.fs,.b] (λS_ c_ l_0 l_1 l_2 b ZX=>S_ l_0 l_1 l_2 b ZX (λr0 r1=>c_ (.rof r0) [⟨173,1,.cells [.bool r1]⟩])) N_ (jR N_)
def Vb (N_:Nat):LT:=ad (Va N_) 140 ⟨[.agg [.int .i64,.int .i64,.rof],.agg [.int .i64,.int .i64,.rof]],[]⟩ [.i,.i,.fs,.i,.i,.fs] (λS_ c_ Z9 Z4 a_2 b_0 ZX Z3=>S_ Z9 Z4 a_2 b_0 ZX Z3 (λr0 r1 r2 r3 r4=>c_ (.tup [.agg [vwi r0,vwi r1,.rof r2],vwi r3,vwi r4]) [])) N_ (mN N_)
def Vc (N_:Nat):LT:=ad (Vb N_) 141 ⟨[.agg [.int .i64,.int .i64,.rof]],[]⟩ [.i,.i,.fs] (λS_ c_ m_0 Z0 Z7=>S_ m_0 Z0 Z7 (λr0 r1 r2 r3=>c_ (.tup [.agg [vwi r0,vwi r1,.rof r2],vwi r3]) [])) N_ (M_ N_)
def Vd (N_:Nat):LT:=ad (Vc N_) 83 ⟨[.agg [.int .i64,.int .i64,.rof]],[]⟩ [.i,.i,.fs] (λS_ c_ Z9 Z4 a_2=>S_ Z9 Z4 a_2 (λr0 r1 r2 r3 r4=>c_ (.tup [.agg [vwi r0,vwi r1,.rof r2],vwi r3,vwi r4]) [])) N_ (nI N_)
def Ve (N_:Nat):LT:=ad (Vd N_) 84 ⟨[.agg [.int .i64,.int .i64,.rof],.rof],[]⟩ [.i,.i,.fs,.fs] (λS_ c_ Z9 Z4 a_2 b=>S_ Z9 Z4 a_2 b (λr0 r1 r2=>c_ (.tup [.rof r0,vwi r1,vwi r2]) [])) N_ (qi N_)
def Vf (N_:Nat):LT:=ad (Ve N_) 111 ⟨[.agg [.rof,.int .i64,.int .i64,.rof]],[]⟩ [.fs,.i,.i,.fs] (λS_ c_ s_0 s_1 s_2 s_3=>S_ s_0 s_1 s_2 s_3 (λr0=>c_ (vwi r0) [])) N_ (sC N_)
def Vg (N_:Nat):LT:=ad (Vf N_) 189 ⟨[.agg [.int .i64,.int .i64,.rof]],[]⟩ [.i,.i,.fs] (λS_ c_ m_0 Z0 Z7=>S_ m_0 Z0 Z7 (λr2=>c_ (.agg [vwi m_0,vwi Z0,.slw 0]) [⟨231,1,.own 235 RT1 r2 []⟩])) N_ (sv N_)
def Vh (N_:Nat):LT:=ad (Vg N_) 29 ⟨[.agg [.int .i64,.int .i64,.rof,.rof]],[]⟩ [.i,.i,.fs,.fs] (λS_ c_ Z9 Z4 a_2 a_3=>S_ Z9 Z4 a_2 a_3 (λr0=>c_ (vwi r0) [])) N_ (MP N_)
def Vi (N_:Nat):LT:=ad (Vh N_) 132 ⟨[.agg [.int .i64,.int .i64,.rof],.rof,.fn 133 []],[]⟩ [.i,.i,.fs,.fs] (λS_ c_ l_0 l_1 l_2 b=>S_ l_0 l_1 l_2 b (λr0 r1=>c_ (.tup [.rof r0,vwi r1]) [])) N_ (sc N_)
def Vj (N_:Nat):LT:=ad (Vi N_) 89 ⟨[.agg [.int .i64,.int .i64,.rof]],[]⟩ [.i,.i,.fs] (λS_ c_ l_0 l_1 l_2=>S_ l_0 l_1 l_2 (λr0 r1 r2 r3=>c_ (.tup [.agg [vwi r0,vwi r1,.rof r2],vwi r3]) [])) N_ (pg N_)
def Vk (N_:Nat):LT:=ao (Vj N_) 132 ⟨[.agg [.int .i64,.int .i64,.rof],.rof,.fn 144 []],[]⟩ [.i,.i,.fs,.fs] (λS_ c_ l_0 l_1 l_2 b=>S_ l_0 l_1 l_2 b (λr0 r1=>c_ (.tup [.rof r0,vwi r1]) [])) N_ (ph N_)
def Vl (N_:Nat):LT:=upM Pg kc N_ fmd (Vk N_) [42,105,79,95,153,183]
def Vm (N_:Nat):LT:=ad (Vl N_) 125 ⟨[.agg [.int .i64,.int .i64,.rof]],[]⟩ [.i,.i,.fs] (λS_ c_ m_0 Z0 Z7=>S_ m_0 Z0 Z7 (λr0 r1=>c_ (.tup [vwi r0,vwi r1]) [])) N_ (jT N_)
def Vn (N_:Nat):LT:=ad (Vm N_) 65 ⟨[.agg [.rof,.int .i64,.int .i64,.rof]],[]⟩ [.fs,.i,.i,.fs] (λS_ c_ s_0 s_1 s_2 s_3=>S_ s_0 s_1 s_2 s_3 (λr0=>c_ (vwi r0) [])) N_ (sB N_)
def Vo (N_:Nat):LT:=ad (Vn N_) 109 ⟨[.slw 0,.agg [.int .i64,.int .i64,.rof],.ptr 1 0],[some (36,1,.flts),some (100,1,.cells [.bool])]⟩ [.i,.i,.fs,.fs,.b] (λS_ c_ p_0 p_1 p_2 b ZX=>S_ p_0 p_1 p_2 b ZX (λr0 r1 r2=>c_ (.tup [.agg [.nil,vwi r0,vwi r1,.nil],vwi r2]) [⟨36,1,.flts b⟩,⟨100,1,.cells [.bool ZX]⟩]) (λr2 r3=>c_ (.tup [.agg [.slw 0,vwi p_0,vwi p_1,.rof r2],vwi r3]) [⟨36,1,.flts b⟩,⟨100,1,.cells [.bool ZX]⟩])) N_ (ND N_)
def Vp (N_:Nat):LT:=ad (Vo N_) 57 ⟨[.slw 0,.agg [.int .i64,.int .i64,.rof],.ptr 1 0],[some (36,1,.flts),some (100,1,.cells [.bool])]⟩ [.i,.i,.fs,.fs,.b] (λS_ c_ y_0 y_1 y_2 b ZX=>S_ y_0 y_1 y_2 b ZX (λr0 r1 r2=>c_ (.tup [.agg [vwi r0,vwi r1,.nil,.nil],vwi r2]) [⟨36,1,.flts b⟩,⟨100,1,.cells [.bool ZX]⟩]) (λr2 r3=>c_ (.tup [.agg [vwi y_0,vwi y_1,.rof r2,.slw 0],vwi r3]) [⟨36,1,.flts b⟩,⟨100,1,.cells [.bool ZX]⟩])) N_ (M9 N_)
def Vq (N_:Nat):LT:=ad (Vp N_) 40 ⟨[.agg [.int .i64,.int .i64,.rof,.rof]],[]⟩ [.i,.i,.fs,.fs] (λS_ c_ Z9 Z4 a_2 a_3=>S_ Z9 Z4 a_2 a_3 (λr0 r1 r2 r3 r4=>c_ (.tup [.agg [vwi r0,vwi r1,.rof r2,.rof r3],vwi r4]) [])) N_ (Jg N_)
def Vr (N_:Nat):LT:=ad (Vq N_) 41 ⟨[.agg [.int .i64,.int .i64,.rof,.rof]],[]⟩ [.i,.i,.fs,.fs] (λS_ c_ Z9 Z4 a_2 a_3=>S_ Z9 Z4 a_2 a_3 (λr0 r1=>c_ (.tup [.rof r0,vwi r1]) [])) N_ (nh N_)
def Vs (N_:Nat):LT:=upM Pg kc N_ fmd (Vr N_) [23,77]
def Vt (N_:Nat):LT:=ad (Vs N_) 25 ⟨[.agg [.int .i64,.int .i64,.rof,.rof]],[]⟩ [.i,.i,.fs,.fs] (λS_ c_ Z9 Z4 a_2 a_3=>S_ Z9 Z4 a_2 a_3 (λr0=>c_ (vwi r0) [])) N_ (qk N_)
def Vu (N_:Nat):LT:=ad (Vt N_) 28 ⟨[.agg [.int .i64,.int .i64,.rof,.rof]],[]⟩ [.i,.i,.fs,.fs] (λS_ c_ Z9 Z4 a_2 a_3=>S_ Z9 Z4 a_2 a_3 (λr0 r1 r2 r3 r4=>c_ (.tup [.agg [.rof r0,vwi r1,vwi r2,.rof r3],vwi r4]) [])) N_ (qm N_)
def Vv (N_:Nat):LT:=ad (Vu N_) 36 ⟨[.agg [.int .i64,.int .i64,.rof,.rof]],[]⟩ [.i,.i,.fs,.fs] (λS_ c_ Z9 Z4 a_2 a_3=>S_ Z9 Z4 a_2 a_3 (λr0 r1 r2 r3 r4=>c_ (.tup [.agg [.rof r0,vwi r1,vwi r2,.rof r3],vwi r4]) [])) N_ (Nv N_)
def Vw (N_:Nat):LT:=ad (Vv N_) 26 ⟨[.agg [.int .i64,.int .i64,.rof,.rof]],[]⟩ [.i,.i,.fs,.fs] (λS_ c_ Z9 Z4 a_2 a_3=>S_ Z9 Z4 a_2 a_3 (λr0 r1 r2 r3 r4=>c_ (.tup [.agg [vwi r0,vwi r1,.rof r2,.rof r3],vwi r4]) [])) N_ (pk N_)
def Vx (N_:Nat):LT:=ad (Vw N_) 39 ⟨[.agg [.int .i64,.int .i64,.rof,.rof]],[]⟩ [.i,.i,.fs,.fs] (λS_ c_ Z9 Z4 a_2 a_3=>S_ Z9 Z4 a_2 a_3 (λr0 r1 r2 r3 r4=>c_ (.tup [.agg [vwi r0,vwi r1,.rof r2,.rof r3],vwi r4]) [])) N_ (NE N_)
def Vy (N_:Nat):LT:=ad (Vx N_) 92 ⟨[.ptr 0 0,.slw 1,.agg [.int .i64,.int .i64,.rof]],[some (107,1,.cells [.bool]),some (36,1,.flts)]⟩ [.i,.i,.fs,.b,.fs] (λS_ c_ y_0 y_1 y_2 b ZX=>S_ y_0 y_1 y_2 b ZX (λr0 r1 r2=>c_ (.tup [.agg [vwi r0,vwi r1,.nil,.nil],vwi r2]) [⟨107,1,.cells [.bool b]⟩,⟨36,1,.flts ZX⟩]) (λr3=>c_ (.tup [.agg [vwi y_0,vwi y_1,.rof y_2,.slw 1],vwi r3]) [⟨107,1,.cells [.bool b]⟩,⟨36,1,.flts ZX⟩])) N_ (jS N_)
def Vz (N_:Nat):LT:=ad (Vy N_) 30 ⟨[.agg [.int .i64,.int .i64,.rof,.rof]],[]⟩ [.i,.i,.fs,.fs] (λS_ c_ Z9 Z4 a_2 a_3=>S_ Z9 Z4 a_2 a_3 (λr0 r1 r2 r3 r4=>c_ (.tup [.agg [vwi r0,vwi r1,.rof r2,.rof r3],vwi r4]) [])) N_ (lR N_)
def PY:FnSh:=⟨[.roi .u64,.int .i64,.int .i64,.roi .u64,.roi .u64],[]⟩
end
theorem Oq (w:World) (v:Value):Calls Tryz.prog 181 #[.nilIface,v] w λe w'=>e=.returned v/\w'=w:=
 QD (P:=Tryz.prog) (fc:=181) (fn:=Tryz.f181) (by kernel_rfl) (by kernel_rfl) (by kernel_rfl) rfl rfl rfl rfl rfl rfl rfl rfl rfl rfl rfl rfl rfl rfl rfl rfl rfl rfl rfl (λ_=>rfl) (λ_=>by kernel_rfl) w v
theorem SB:uZ Tryz.prog 180:=
 Oe (P:=Tryz.prog) (g:=180) (fc:=181) (fg:=Tryz.f180) (ff:=Tryz.f181) (by kernel_rfl) (by kernel_rfl) (by kernel_rfl) (by kernel_rfl) rfl (by kernel_rfl) (by kernel_rfl) (by kernel_rfl) (by kernel_rfl) (by kernel_rfl) rfl rfl rfl rfl rfl rfl rfl rfl rfl rfl rfl (by kernel_rfl) (by kernel_rfl) Oq
theorem hD_:HD Tryz.prog kc:=by
 intro g hg h;have e:g=180:=by have h:=Gr h; simp at h; omega
 rcases e with rfl
 exact SB
end Go.Proofs.YtdinakfmablagaaGreatDoor
end
