/- The program's functions and their ties. Conditions: none. -/
import Derived.Test.YtdinakfmablagaaGreatDoorGp
import Derived.Test.YtdinakfmablagaaGreatDoorMachT
import Derived.Test.YtdinakfmablagaaGreatDoorProg
set_option linter.unusedVariables false
section
namespace Go.Proofs.YtdinakfmablagaaGreatDoor
open Go Go.Mach Go.Proofs
set_option maxRecDepth 50000
abbrev KV:=V->List Blk->Bool
abbrev SPT:=List Atom->KV->Bool
noncomputable abbrev Pg:Program:=Tryz.prog
def vqs:Nat → List V → List V
  | 0,t=>t
  | n+1,t=>.any::vqs n t
abbrev vwi (z:Int):V:=.int .i64 z
abbrev vwu (z:Int):V:=.int .u64 z
abbrev vwv (z:Int):V:=.int .u32 z
abbrev vwr (l:LI):V:=.roi .u64 l
abbrev vws (l:LI):V:=.roi .u32 l
theorem Su {p:Nat → Prop} (h:p 0):∀ i,i<1 → p i
 | 0,_=>h
 | _+1,g=>by omega
theorem RA {p:Nat → Prop} (h:p 0) (h1:p 1):∀ i,i<2 → p i
 | 0,_=>h
 | 1,_=>h1
 | _+2,g=>by omega
def sqs:Nat → List Sh → List Sh
 | 0,t=>t
 | n+1,t=>.any::sqs n t
noncomputable def ij:Nat->Bool:=K1 [134,206,171,50,32,30,10,20,12,21,16,15,92,91,57,54,286,259,305,316,17,109,97,96,160,157,156,90,204,228,201,203,226,227,242,216,269,245,217,183,265,312,306,254,283,284,1000318,1000209,1000207,2000180,3000090,3000048,3000047,4000230,4000061]
abbrev LT:=List (Nat × Fs)
abbrev TbS (A B:Nat->LT):Prop:=∀ N,OKL Pg ij (A N)->OKL Pg ij (B N)
noncomputable def fmd:Nat->Nat:=λg=>(cond (K1 [116,120,171,202,237,238,239,240,241,251,252,259,260,261,268,274,275,296,302,312] g) 1 (cond (K1 [243,246,247,270,271] g) 2 0))
noncomputable section
def L0 (N_:Nat):LT:=[]
def Rq:FnSh:=⟨[.fb],[]⟩
def OK (XK:JF):SPT:=λa_ c_=>match a_ with
 | [.nat a0]=>XK a0 (λr0=>c_ (vwu r0) [])
 | _=>false
abbrev RB (XK:JF):Fs:=fe Rq (OK XK)
def L1 (N_:Nat):LT:=(19,(RB (BI N_)))::L0 N_
def NT:FnSh:=⟨[.int .u64],[]⟩
def LR (W3:Ei):SPT:=λa_ c_=>match a_ with
 | [.int a0]=>W3 a0 (λr0=>c_ (.flt r0) [])
 | _=>false
abbrev IU (W3:Ei):Fs:=fe NT (LR W3)
def L2 (N_:Nat):LT:=(44,(IU (wl N_)))::L1 N_
def L3 (N_:Nat):LT:=ad (L2 N_) 9 ⟨[.roi .u64],[]⟩ [.is] (λS_ c_ l=>S_ l (λr0=>c_ (.slw 0) [⟨36,1,.flts r0⟩])) N_ (sA N_)
def L4 (N_:Nat):LT:=ad (L3 N_) 191 ⟨[.int .i64,.int .i64,.int .i64],[]⟩ [.i,.i,.i] (λS_ c_ rows cols n=>S_ rows cols n (λr0=>c_ (vwi r0) [])) N_ (pS N_)
def GP:FnSh:=⟨[.flt],[]⟩
def LP (W2:Eh):SPT:=λa_ c_=>match a_ with
 | [.fl a0]=>W2 a0 (λr0=>c_ (vwu r0) [])
 | _=>false
abbrev IR (W2:Eh):Fs:=fe GP (LP W2)
def L5 (N_:Nat):LT:=(19,(BB (IR (uf N_)) (ofL (L4 N_) 19) GP))::L4 N_
def L6 (N_:Nat):LT:=ad (L5 N_) 169 ⟨[.int .i64,.int .u64,.int .i64],[]⟩ [.i,.i,.i] (λS_ c_ exp frac most=>S_ exp frac most (λr0=>c_ (vwi r0) [])) N_ (Jt N_)
def L7 (N_:Nat):LT:=ad (L6 N_) 170 ⟨[.int .u64,.int .i64],[]⟩ [.i,.i] (λS_ c_ m e=>S_ m e (λr0 r1=>c_ (.tup [vwu r0,vwi r1]) [])) N_ (q_ N_)
def L8 (N_:Nat):LT:=ad (L7 N_) 206 ⟨[.slw 0],[some (238,1,.ints .u32)]⟩ [.is] (λS_ c_ b=>S_ b (λr0=>c_ (.sl 0 0 r0) [⟨238,1,.ints .u32 b⟩])) N_ (O1 N_)
def L9 (N_:Nat):LT:=ad (L8 N_) 172 ⟨[.int .u64],[]⟩ [.i] (λS_ c_ n=>S_ n (λr0=>c_ (vws r0) [])) N_ (Jo N_)
def L10 (N_:Nat):LT:=ao (L9 N_) 206 ⟨[.roi .u32],[]⟩ [.is] (λS_ c_ m=>S_ m (λr0=>c_ (vws r0) [])) N_ (uB N_)
def L11 (N_:Nat):LT:=ad (L10 N_) 210 ⟨[.roi .u32,.int .u64],[]⟩ [.is,.i] (λS_ c_ m n=>S_ m n (λr0=>c_ (vws r0) [])) N_ (sw N_)
def L12 (N_:Nat):LT:=ad (L11 N_) 276 ⟨[.int .u32],[]⟩ [.i] (λS_ c_ x=>S_ x (λr0=>c_ (vwi r0) [])) N_ (Mo N_)
def L13 (N_:Nat):LT:=ad (L12 N_) 253 ⟨[.ptr 0 0],[some (158,1,.cells [.bool,.roi .u32])]⟩ [.b,.is] (λS_ c_ b Ub=>S_ b Ub (λr0=>c_ (vwu r0) [⟨158,1,.cells [.bool b,vws Ub]⟩])) N_ (GQ5 N_)
def L14 (N_:Nat):LT:=ad (L13 N_) 254 ⟨[.roi .u32,.int .u64],[]⟩ [.is,.i] (λS_ c_ m n=>S_ m n (λr0=>c_ (vws r0) [])) N_ (Pq N_)
def L15 (N_:Nat):LT:=ad (L14 N_) 277 ⟨[.int .u32],[]⟩ [.i] (λS_ c_ x=>S_ x (λr0=>c_ (vwi r0) [])) N_ (Ja N_)
def L16 (N_:Nat):LT:=ad (L15 N_) 255 ⟨[.ptr 0 0],[some (158,1,.cells [.bool,.roi .u32])]⟩ [.b,.is] (λS_ c_ b Ub=>S_ b Ub (λr0=>c_ (vwi r0) [⟨158,1,.cells [.bool b,vws Ub]⟩])) N_ (Po N_)
def L17 (N_:Nat):LT:=ad (L16 N_) 208 ⟨[.roi .u32,.roi .u32],[]⟩ [.is,.is] (λS_ c_ a b=>S_ a b (λr0=>c_ (vwi r0) [])) N_ (PB N_)
def L18 (N_:Nat):LT:=ad (L17 N_) 279 ⟨[.roi .u32,.int .i64],[]⟩ [.is,.i] (λS_ c_ m YC=>S_ m YC (λr0=>c_ (vwu r0) [])) N_ (sv N_)
def L19 (N_:Nat):LT:=ad (L18 N_) 278 ⟨[.int .u64,.int .u64],[]⟩ [.i,.i] (λS_ c_ x y=>S_ x y (λr0 r1 r2 r3=>c_ (.tup [vwi r0,vwi r1,vwi r2,vwi r3]) [])) N_ (pO N_)
def L20 (N_:Nat):LT:=ad (L19 N_) 281 ⟨[.roi .u32,.int .u32],[]⟩ [.is,.i] (λS_ c_ m d=>S_ m d (λr0 r1=>c_ (.tup [vws r0,vwv r1]) [])) N_ (pN N_)
def L21 (N_:Nat):LT:=ad (L20 N_) 283 ⟨[.sl 0,.sl 1,.int .i64,.int .u64],[some (238,1,.ints .u32),some (238,1,.ints .u32)]⟩ [.n,.n,.n,.n,.i,.i,.is,.is] (λS_ c_ UP US XR UK j g b Ub=>S_ UP US XR UK j g b Ub (λr0 r1=>c_ (.bool r0) [⟨238,1,.ints .u32 r1⟩,⟨238,1,.ints .u32 Ub⟩])) N_ (Jk N_)
def L22 (N_:Nat):LT:=ad (L21 N_) 284 ⟨[.sl 0,.sl 1,.int .i64],[some (238,1,.ints .u32),some (238,1,.ints .u32)]⟩ [.n,.n,.n,.n,.i,.is,.is] (λS_ c_ UP US XR UK j b Ub=>S_ UP US XR UK j b Ub (λr0=>c_ (.tup []) [⟨238,1,.ints .u32 r0⟩,⟨238,1,.ints .u32 Ub⟩])) N_ (Jl N_)
def L23 (N_:Nat):LT:=ao (L22 N_) 206 ⟨[.sl 0],[some (238,1,.ints .u32)]⟩ [.n,.n,.is] (λS_ c_ UE Uo b=>S_ UE Uo b (λr1=>c_ (.sl 0 UE r1) [⟨238,1,.ints .u32 b⟩])) N_ (pL N_)
def L24 (N_:Nat):LT:=ao (L23 N_) 254 ⟨[.sl 0,.int .u64],[some (238,1,.ints .u32)]⟩ [.n,.n,.i,.is] (λS_ c_ UE Uo n b=>S_ UE Uo n b (λr0=>c_ (vws r0) [⟨238,1,.ints .u32 b⟩])) N_ (Jq N_)
def L25 (N_:Nat):LT:=ad (L24 N_) 175 ⟨[.roi .u32,.roi .u32],[]⟩ [.is,.is] (λS_ c_ a b=>S_ a b (λr0=>c_ (vws r0) [])) N_ (Ps N_)
def L26 (N_:Nat):LT:=ad (L25 N_) 209 ⟨[.roi .u32,.roi .u32],[]⟩ [.is,.is] (λS_ c_ a b=>S_ a b (λr0=>c_ (vws r0) [])) N_ (pM N_)
def L27 (N_:Nat):LT:=ad (L26 N_) 297 ⟨[.roi .u32,.int .u64,.roi .u32,.int .u64],[]⟩ [.is,.i,.is,.i] (λS_ c_ a u b v=>S_ a u b v (λr0=>c_ (vws r0) [])) N_ (Js N_)
def L28 (N_:Nat):LT:=ad (L27 N_) 280 ⟨[.roi .u32,.int .i64,.roi .u32,.int .i64],[]⟩ [.is,.i,.is,.i] (λS_ c_ a u b v=>S_ a u b v (λr0=>c_ (vws r0) [])) N_ (q9 N_)
def L29 (N_:Nat):LT:=ad (L28 N_) 225 ⟨[.int .i64,.int .i64],[]⟩ [.i,.i] (λS_ c_ rows cols=>S_ rows cols (λr2=>c_ (.agg [vwi rows,vwi cols,.slw 0]) [⟨231,1,.own 235 RT1 r2 []⟩])) N_ (ob N_)
def L30 (N_:Nat):LT:=ad (L29 N_) 115 ⟨[.rp [.bool,.roi .u32,.bool,.roi .u32] 0],[]⟩ [.b,.is,.b,.is] (λS_ c_ YV UY X7 X8=>S_ YV UY X7 X8 (λr0=>c_ (vwi r0) [])) N_ (uC N_)
def L31 (N_:Nat):LT:=ad (L30 N_) 207 ⟨[.roi .u32,.roi .u32],[]⟩ [.is,.is] (λS_ c_ a b=>S_ a b (λr0=>c_ (vws r0) [])) N_ (sx N_)
def OJ:FnSh:=⟨[],[]⟩
def Rt (Yu:Qy):SPT:=λa_ c_=>match a_ with
 | []=>Yu (λr0=>c_ (.bool r0) [])
 | _=>false
abbrev FQ4 (Yu:Qy):Fs:=fe OJ (Rt Yu)
def L32 (N_:Nat):LT:=(22,(FQ4 (sQ4 N_)))::L31 N_
def L33 (N_:Nat):LT:=ad (L32 N_) 285 ⟨[.int .u64],[]⟩ [.i] (λS_ c_ x=>S_ x (λr0=>c_ (vwi r0) [])) N_ (Mp N_)
def L34 (N_:Nat):LT:=ad (L33 N_) 286 ⟨[.slw 0],[some (23,1,.ints .u64)]⟩ [.is] (λS_ c_ b=>S_ b (λr0=>c_ (.sl 0 0 r0) [⟨23,1,.ints .u64 b⟩])) N_ (Pa N_)
def L35 (N_:Nat):LT:=ad (L34 N_) 262 ⟨[.roi .u64,.int .u64],[]⟩ [.is,.i] (λS_ c_ x n=>S_ x n (λr0=>c_ (vwr r0) [])) N_ (su N_)
def L36 (N_:Nat):LT:=ad (L35 N_) 288 ⟨[.roi .u64,.roi .u64],[]⟩ [.is,.is] (λS_ c_ x y=>S_ x y (λr0=>c_ (vwi r0) [])) N_ (I8 N_)
def L37 (N_:Nat):LT:=ad (L36 N_) 311 ⟨[.int .u64],[]⟩ [.i] (λS_ c_ x=>S_ x (λr0=>c_ (vwi r0) [])) N_ (Pp N_)
def L38 (N_:Nat):LT:=ad (L37 N_) 298 ⟨[.roi .u64],[]⟩ [.is] (λS_ c_ x=>S_ x (λr0=>c_ (vwi r0) [])) N_ (nY N_)
def L39 (N_:Nat):LT:=ad (L38 N_) 299 ⟨[.int .u64,.int .u64],[]⟩ [.i,.i] (λS_ c_ x y=>S_ x y (λr0 r1 r2 r3 r4=>c_ (.agg [vwu r0,vwu r1,vwu r2,vwu r3,.bool r4]) [])) N_ (vq N_)
def L40 (N_:Nat):LT:=ad (L39 N_) 307 ⟨[.int .u64,.int .u64],[]⟩ [.i,.i] (λS_ c_ x y=>S_ x y (λr0 r1=>c_ (.tup [vwu r0,vwu r1]) [])) N_ (I4 N_)
def SE:FnSh:=⟨[.int .u64,.int .u64,.int .u64],[]⟩
def SI (Yv:Qz):SPT:=λa_ c_=>match a_ with
 | [.int a0,.int a1,.int a2]=>Yv a0 a1 a2 (λr0 r1=>c_ (.tup [vwu r0,vwu r1]) [])
 | _=>false
abbrev FQ6 (Yv:Qz):Fs:=fe SE (SI Yv)
def L41 (N_:Nat):LT:=(308,(FQ6 (sQ6 N_)))::L40 N_
def L42 (N_:Nat):LT:=ad (L41 N_) 290 ⟨[.int .u64,.int .u64,.int .u64,.int .u64],[]⟩ [.i,.i,.i,.i] (λS_ c_ a b c d=>S_ a b c d (λr0 r1=>c_ (.tup [vwu r0,vwu r1]) [])) N_ (sr N_)
def L43 (N_:Nat):LT:=ad (L42 N_) 314 ⟨[.roi .u64,.int .u64,.int .u64],[]⟩ [.is,.i,.i] (λS_ c_ x d more=>S_ x d more (λr0=>c_ (vwr r0) [])) N_ (Jh N_)
def SF:FnSh:=⟨[.int .u64,.int .u64,.int .u64],[]⟩
def SJ (Yw:QA):SPT:=λa_ c_=>match a_ with
 | [.int a0,.int a1,.int a2]=>Yw a0 a1 a2 (λr0 r1=>c_ (.tup [vwu r0,vwu r1]) [])
 | _=>false
abbrev FQ8 (Yw:QA):Fs:=fe SF (SJ Yw)
def L44 (N_:Nat):LT:=(317,(FQ8 (sQ8 N_)))::L43 N_
def L45 (N_:Nat):LT:=ao (L44 N_) 286 ⟨[.sl 0],[some (23,1,.ints .u64)]⟩ [.n,.n,.is] (λS_ c_ UF Ur b=>S_ UF Ur b (λr1=>c_ (.sl 0 UF r1) [⟨23,1,.ints .u64 b⟩])) N_ (nZ N_)
def L46 (N_:Nat):LT:=ad (L45 N_) 266 ⟨[.roi .u64,.roi .u64],[]⟩ [.is,.is] (λS_ c_ x y=>S_ x y (λr0=>c_ (vwr r0) [])) N_ (PD N_)
def L47 (N_:Nat):LT:=ad (L46 N_) 242 ⟨[.agg [.int .i64,.int .i64,.slw 0],.int .i64,.int .i64],[some (249,1,.recs RT0)]⟩ [.i,.i,.i,.i,.r RT0] (λS_ c_ VS U6 i j b=>S_ VS U6 i j b (λr0 r1 r2 r3=>c_ (.agg [.rp [.bool r0,vwr r1,.bool r2,vwr r3] 0]) [⟨249,1,.recs RT0 b⟩])) N_ (eh N_)
def L48 (N_:Nat):LT:=ad (L47 N_) 293 ⟨[.rp [.bool,.roi .u64,.bool,.roi .u64] 0],[]⟩ [.b,.is,.b,.is] (λS_ c_ UF Ur UD UH=>S_ UF Ur UD UH (λr0=>c_ (vwi r0) [])) N_ (Jr N_)
def IA:FnSh:=⟨[.flt],[]⟩
def yU (VY:xt):SPT:=λa_ c_=>match a_ with
 | [.fl x]=>VY x (λr0=>c_ (.flt r0) [])
 | _=>false
abbrev FP (VY:xt):Fs:=fe IA (yU VY)
def L49 (N_:Nat):LT:=(167,(FP (uk N_)))::L48 N_
def LH:FnSh:=⟨[.fb],[]⟩
def LU (XM:Oe):SPT:=λa_ c_=>match a_ with
 | [.nat x]=>XM x (λr0=>c_ (.flt r0) [])
 | _=>false
abbrev OR (XM:Oe):Fs:=fe LH (LU XM)
def L50 (N_:Nat):LT:=ad (L49 N_) 107 ⟨[.flt,.int .i64],[]⟩ [.f,.i] (λS_ c_ f sign=>S_ f sign (λr0=>c_ (.bool r0) [])) N_ (q8 N_)
def L51 (N_:Nat):LT:=ad1 1 (L50 N_) 47 ⟨[.ptr 0 0,.flt],[some (107,1,.cells [.bool])]⟩ [.f,.b] (λS_ c_ x b=>S_ x b (λr1=>c_ (.flt x) (.bool r1))) N_ (O2 N_)
def L52 (N_:Nat):LT:=ad1 2 (L51 N_) 61 ⟨[.ptr 0 0],[some (107,1,.cells [.bool])]⟩ [.b] (λS_ c_ b=>S_ b (c_ (.bool b) (.any))) N_ (n_ N_)
def L53 (N_:Nat):LT:=ad (L52 N_) 43 ⟨[.rof,.rof],[]⟩ [.fs,.fs] (λS_ c_ a b=>S_ a b (λr0=>c_ (.bool r0) [])) N_ (O_ N_)
def L54 (N_:Nat):LT:=ad (L53 N_) 58 ⟨[.agg [.int .i64,.int .i64,.rof],.agg [.int .i64,.int .i64,.rof]],[]⟩ [.i,.i,.fs,.i,.i,.fs] (λS_ c_ UU Ut UM Wn Ub Ud=>S_ UU Ut UM Wn Ub Ud (λr0=>c_ (.bool r0) [])) N_ (IY N_)
def L55 (N_:Nat):LT:=ad1 1 (L54 N_) 48 ⟨[.ptr 0 0,.flt,.flt],[some (107,1,.cells [.bool])]⟩ [.f,.f,.b] (λS_ c_ a b Ub=>S_ a b Ub (λr0 r1=>c_ (.flt r0) (.bool r1))) N_ (pJ N_)
def L56 (N_:Nat):LT:=ad (L55 N_) 46 ⟨[.ptr 0 0,.int .i64,.int .i64,.ptr 1 0,.ptr 2 0],[some (107,1,.cells [.bool]),some (26,1,.cells [.slw 3]),some (36,1,.cells [.flt]),some (36,1,.flts)]⟩ [.i,.i,.b,.f,.fs] (λS_ c_ i j b Ub Ud=>S_ i j b Ub Ud (λr0 r1=>c_ (.flt r0) [⟨107,1,.cells [.bool r1]⟩,⟨26,1,.cells [.slw 3]⟩,⟨36,1,.cells [.flt Ub]⟩,⟨36,1,.flts Ud⟩])) N_ (cI N_)
def L57 (N_:Nat):LT:=ad (L56 N_) 49 ⟨[.ptr 0 0,.int .i64,.int .i64,.ptr 1 0,.ptr 2 0,.ptr 3 0],[some (107,1,.cells [.bool]),some (26,1,.cells [.slw 4]),some (36,1,.cells [.flt]),some (36,1,.cells [.flt]),some (36,1,.flts)]⟩ [.i,.i,.b,.f,.f,.fs] (λS_ c_ i v_ b Ub Ud Um=>S_ i v_ b Ub Ud Um (λr0 r1=>c_ (.flt r0) [⟨107,1,.cells [.bool r1]⟩,⟨26,1,.cells [.slw 4]⟩,⟨36,1,.cells [.flt Ub]⟩,⟨36,1,.cells [.flt Ud]⟩,⟨36,1,.flts Um⟩])) N_ (cl N_)
def L58 (N_:Nat):LT:=ao (L57 N_) 115 ⟨[.ptr 0 0],[some (158,1,.cells [.bool,.roi .u32])]⟩ [.b,.is] (λS_ c_ b Ub=>S_ b Ub (λr0=>c_ (vwi r0) [⟨158,1,.cells [.bool b,vws Ub]⟩])) N_ (Pb N_)
def L59 (N_:Nat):LT:=upM Pg ij N_ fmd (L58 N_) [11,13,64,63,269,244,268,296,241,302,304,312,237,261,259,260,214,124,121,202,201,282,252,171,56,192,8,232,233,231,178]
def L60 (N_:Nat):LT:=ad (L59 N_) 212 ⟨[.int .u64,.agg [.int .u64,.int .i64,.int .i64]],[]⟩ [.i,.i,.i,.i] (λS_ c_ b U8 Va Vh=>S_ b U8 Va Vh (λr0=>c_ (.bool r0) [])) N_ (I7 N_)
def L61 (N_:Nat):LT:=ad (L60 N_) 213 ⟨[.agg [.int .u64,.int .i64,.int .i64]],[]⟩ [.i,.i,.i] (λS_ c_ U8 Va Vh=>S_ U8 Va Vh (λr0=>c_ (vwu r0) [])) N_ (uA N_)
def L62 (N_:Nat):LT:=ad (L61 N_) 168 ⟨[.flt],[]⟩ [.f] (λS_ c_ x=>S_ x (λr0 r1 r2=>c_ (.tup [.bool r0,vwi r1,vwu r2]) [])) N_ (pQ N_)
def L63 (N_:Nat):LT:=ad (L62 N_) 138 ⟨[.flt,.flt],[]⟩ [.f,.f] (λS_ c_ a b=>S_ a b (λr0=>c_ (.bool r0) [])) N_ (sB N_)
def L64 (N_:Nat):LT:=ad (L63 N_) 112 ⟨[.flt],[]⟩ [.f] (λS_ c_ x=>S_ x (λr0 r1 r2 r3=>c_ (.tup [.agg [.bool r0,vwu r1,vwi r2],vwi r3]) [])) N_ (pP N_)
def L65 (N_:Nat):LT:=ad (L64 N_) 113 ⟨[.ptr 0 0,.int .u64],[some (158,1,.cells [.bool,.nil])]⟩ [.i,.b] (λS_ c_ n b=>S_ n b (λr0 r1=>c_ (.ptr 0 0) [⟨158,1,.cells [.bool r0,vws r1]⟩])) N_ (Pk N_)
def L66 (N_:Nat):LT:=ad (L65 N_) 114 ⟨[.ptr 0 0,.ptr 0 0],[some (158,1,.cells [.bool,.roi .u32])]⟩ [.b,.is] (λS_ c_ b Ub=>S_ b Ub (λr0 r1=>c_ (.ptr 0 0) [⟨158,1,.cells [.bool r0,vws r1]⟩])) N_ (Jm N_)
def L67 (N_:Nat):LT:=ad (L66 N_) 66 ⟨[.flt],[]⟩ [.f] (λS_ c_ x=>S_ x (λr0 r1 r2=>c_ (.agg [.ptr 0 0,vwi r0]) [⟨158,1,.cells [.bool r1,vws r2]⟩])) N_ (IZ N_)
def L68 (N_:Nat):LT:=ad (L67 N_) 174 ⟨[.ptr 0 0,.ptr 1 0,.int .u64],[some (158,1,.cells [.bool,.nil]),some (158,1,.cells [.bool,.roi .u32])]⟩ [.i,.b,.b,.is] (λS_ c_ n b Ub Ud=>S_ n b Ub Ud (λr0 r1=>c_ (.ptr 0 0) [⟨158,1,.cells [.bool r0,vws r1]⟩,⟨158,1,.cells [.bool Ub,vws Ud]⟩])) N_ (I6 N_)
def M69 (N_:Nat):LT:=ad (L68 N_) 210 ⟨[.roi .u32,.int .u64],[]⟩ [.is,.i] (λS_ c_ m n=>S_ m n (c_ (.nil) []) (λr0 r1=>c_ (.sl 0 0 r0) [⟨238,1,.ints .u32 r1⟩])) N_ (IW N_)
def L69 (N_:Nat):LT:=ad (L68 N_) 257 ⟨[.roi .u32,.roi .u32],[]⟩ [.is,.is] (λS_ c_ a b=>S_ a b (λr0 r1=>c_ (.tup [vws r0,vws r1]) [])) N_ (B2 N_)
def L70 (N_:Nat):LT:=ad (L69 N_) 256 ⟨[.roi .u32,.roi .u32],[]⟩ [.is,.is] (λS_ c_ a b=>S_ a b (λr0=>c_ (vws r0) [])) N_ (Jn N_)
def L71 (N_:Nat):LT:=ad (L70 N_) 229 ⟨[.ptr 0 0,.bool,.roi .u32,.roi .u32],[some (235,1,.cells [.bool,.nil,.bool,.nil])]⟩ [.b,.is,.is,.b,.b] (λS_ c_ neg a b Ub Ud=>S_ neg a b Ub Ud (λr0 r1 r2 r3=>c_ (.ptr 0 0) [⟨235,1,.cells [.bool r0,vws r1,.bool r2,vws r3]⟩])) N_ (O3 N_)
def L72 (N_:Nat):LT:=ad (L71 N_) 176 ⟨[.ptr 0 0,.int .i64],[some (158,1,.cells [.bool,.nil])]⟩ [.i,.b] (λS_ c_ n b=>S_ n b (λr0 r1=>c_ (.ptr 0 0) [⟨158,1,.cells [.bool r0,vws r1]⟩])) N_ (I_ N_)
def L73 (N_:Nat):LT:=ad1 2 (L72 N_) 230 ⟨[.rp [.bool,.roi .u32,.bool,.roi .u32] 0],[]⟩ [.b,.is,.b,.is] (λS_ c_ Yq Xe WT Wy=>S_ Yq Xe WT Wy (λr0=>c_ (vws r0) (.any))) N_ (I9 N_)
def L74 (N_:Nat):LT:=ad (L73 N_) 226 ⟨[.ptr 0 0,.rp [.bool,.roi .u32,.bool,.roi .u32] 0],[some (235,1,.cells [.bool,.roi .u32,.bool,.roi .u32])]⟩ [.b,.is,.b,.is,.b,.is,.b,.is] (λS_ c_ UF Ur UD UH b Ub Ud Um=>S_ UF Ur UD UH b Ub Ud Um (λr0 r1 r2 r3=>c_ (.ptr 0 0) [⟨235,1,.cells [.bool r0,vws r1,.bool r2,vws r3]⟩])) N_ (PA N_)
def L75 (N_:Nat):LT:=ad (L74 N_) 200 ⟨[.agg [.int .i64,.int .i64,.rl RT2]],[]⟩ [.i,.i,.r RT2] (λS_ c_ UE Uo Uw=>S_ UE Uo Uw (λr2=>c_ (.agg [vwi UE,vwi Uo,.slw 0]) [⟨231,1,.own 235 RT1 r2 []⟩])) N_ (Pz N_)
def L76 (N_:Nat):LT:=ao1 2 (L75 N_) 230 ⟨[.ptr 0 0],[some (235,1,.cells [.bool,.roi .u32,.bool,.roi .u32])]⟩ [.b,.is,.b,.is] (λS_ c_ b Ub Ud Um=>S_ b Ub Ud Um (λr0=>c_ (vws r0) (.any))) N_ (OU N_)
def L77 (N_:Nat):LT:=ad (L76 N_) 204 ⟨[.ptr 0 0,.ptr 1 0,.ptr 2 0],[some (235,1,.cells [.bool,.nil,.bool,.nil]),some (235,1,.cells [.bool,.roi .u32,.bool,.roi .u32]),some (235,1,.cells [.bool,.roi .u32,.bool,.roi .u32])]⟩ [.b,.b,.b,.is,.b,.is,.b,.is,.b,.is] (λS_ c_ b Ub Ud Um Uq UT Vk VQ Xy Xz=>S_ b Ub Ud Um Uq UT Vk VQ Xy Xz (λr0 r1 r2 r3=>c_ (.ptr 0 0) [⟨235,1,.cells [.bool r0,vws r1,.bool r2,vws r3]⟩,⟨235,1,.cells [.bool Ud,vws Um,.bool Uq,vws UT]⟩,⟨235,1,.cells [.bool Vk,vws VQ,.bool Xy,vws Xz]⟩])) N_ (OZ N_)
def L78 (N_:Nat):LT:=ad (L77 N_) 228 ⟨[.ptr 0 0,.ptr 1 0,.ptr 2 0],[some (235,1,.cells [.bool,.nil,.bool,.nil]),some (235,1,.cells [.bool,.roi .u32,.bool,.roi .u32]),some (235,1,.cells [.bool,.roi .u32,.bool,.roi .u32])]⟩ [.b,.b,.b,.is,.b,.is,.b,.is,.b,.is] (λS_ c_ b Ub Ud Um Uq UT Vk VQ Xy Xz=>S_ b Ub Ud Um Uq UT Vk VQ Xy Xz (λr0 r1 r2 r3=>c_ (.ptr 0 0) [⟨235,1,.cells [.bool r0,vws r1,.bool r2,vws r3]⟩,⟨235,1,.cells [.bool Ud,vws Um,.bool Uq,vws UT]⟩,⟨235,1,.cells [.bool Vk,vws VQ,.bool Xy,vws Xz]⟩])) N_ (OY N_)
def L79 (N_:Nat):LT:=ad (L78 N_) 249 ⟨[.ptr 0 0,.ptr 1 0],[some (235,1,.cells [.bool,.roi .u32,.bool,.roi .u32]),some (235,1,.cells [.bool,.roi .u32,.bool,.roi .u32])]⟩ [.b,.is,.b,.is,.b,.is,.b,.is] (λS_ c_ b Ub Ud Um Uq UT Vk VQ=>S_ b Ub Ud Um Uq UT Vk VQ (λr9 r11=>c_ (.tup [.ptr 2 0,.ptr 3 0]) [⟨235,1,.cells [.bool b,vws Ub,.bool Ud,vws Um]⟩,⟨235,1,.cells [.bool Uq,vws UT,.bool Vk,vws VQ]⟩,⟨158,1,.cells [.bool b,vws r9]⟩,⟨158,1,.cells [.bool Uq,vws r11]⟩])) N_ (Pu N_)
def L80 (N_:Nat):LT:=ad (L79 N_) 173 ⟨[.ptr 0 0,.ptr 1 0,.ptr 2 0,.bool],[some (158,1,.cells [.bool,.nil]),some (158,1,.cells [.bool,.roi .u32]),some (158,1,.cells [.bool,.roi .u32])]⟩ [.b,.b,.b,.is,.b,.is] (λS_ c_ turn b Ub Ud Um Uq=>S_ turn b Ub Ud Um Uq (λr0 r1=>c_ (.ptr 0 0) [⟨158,1,.cells [.bool r0,vws r1]⟩,⟨158,1,.cells [.bool Ub,vws Ud]⟩,⟨158,1,.cells [.bool Um,vws Uq]⟩])) N_ (Pl N_)
def L81 (N_:Nat):LT:=ao (L80 N_) 229 ⟨[.ptr 0 0,.bool,.roi .u32,.roi .u32],[some (235,1,.cells [.bool,.roi .u32,.bool,.roi .u32])]⟩ [.b,.is,.is,.b,.is,.b,.is] (λS_ c_ neg a b Ub Ud Um Uq=>S_ neg a b Ub Ud Um Uq (λr0 r1 r2 r3=>c_ (.ptr 0 0) [⟨235,1,.cells [.bool r0,vws r1,.bool r2,vws r3]⟩])) N_ (Pn N_)
def L82 (N_:Nat):LT:=ad (L81 N_) 235 ⟨[.ptr 0 0,.int .u64],[some (264,1,.cells [.bool,.nil])]⟩ [.i,.b] (λS_ c_ n b=>S_ n b (λr0 r1=>c_ (.ptr 0 0) [⟨264,1,.cells [.bool r0,vwr r1]⟩])) N_ (O0 N_)
def L83 (N_:Nat):LT:=ad (L82 N_) 236 ⟨[.ptr 0 0,.ptr 0 0],[some (264,1,.cells [.bool,.roi .u64])]⟩ [.b,.is] (λS_ c_ b Ub=>S_ b Ub (λr0 r1=>c_ (.ptr 0 0) [⟨264,1,.cells [.bool r0,vwr r1]⟩])) N_ (Pc N_)
def L84 (N_:Nat):LT:=ad (L83 N_) 263 ⟨[.ptr 0 0,.int .i64],[some (264,1,.cells [.bool,.nil])]⟩ [.i,.b] (λS_ c_ n b=>S_ n b (λr0 r1=>c_ (.ptr 0 0) [⟨264,1,.cells [.bool r0,vwr r1]⟩])) N_ (Pf N_)
def L85 (N_:Nat):LT:=ad (L84 N_) 300 ⟨[.roi .u64,.int .i64],[]⟩ [.is,.i] (λS_ c_ x from_=>S_ x from_ (λr0=>c_ (vwu r0) [])) N_ (uz N_)
def L86 (N_:Nat):LT:=ad (L85 N_) 313 ⟨[.roi .u64,.roi .u64],[]⟩ [.is,.is] (λS_ c_ x y=>S_ x y (λr0=>c_ (vwr r0) [])) N_ (Jp N_)
def L87 (N_:Nat):LT:=ad (L86 N_) 301 ⟨[.agg [.int .u64,.int .u64,.int .u64,.int .u64,.bool],.roi .u64,.roi .u64],[]⟩ [.i,.i,.i,.i,.b,.is,.is] (λS_ c_ WX Wj Wc WF W1 x y=>S_ WX Wj Wc WF W1 x y (λr0 r1=>c_ (.tup [vwr r0,vwr r1]) [])) N_ (dG N_)
def L88 (N_:Nat):LT:=ad (L87 N_) 315 ⟨[.int .u64,.int .u64,.int .u64],[]⟩ [.i,.i,.i] (λS_ c_ hi lo y=>S_ hi lo y (λr0 r1=>c_ (.tup [vwu r0,vwu r1]) [])) N_ (I3 N_)
def L89 (N_:Nat):LT:=ad (L88 N_) 303 ⟨[.roi .u64,.int .u64],[]⟩ [.is,.i] (λS_ c_ x d=>S_ x d (λr0 r1=>c_ (.tup [vwr r0,vwu r1]) [])) N_ (pI N_)
def L90 (N_:Nat):LT:=ad (L89 N_) 316 ⟨[.sl 0,.roi .u64],[some (23,1,.ints .u64)]⟩ [.n,.n,.is,.is] (λS_ c_ UP US v b=>S_ UP US v b (λr0=>c_ (vwu r0) [⟨23,1,.ints .u64 b⟩])) N_ (rW N_)
def L91 (N_:Nat):LT:=ad (L90 N_) 305 ⟨[.sl 0,.roi .u64],[some (23,1,.ints .u64)]⟩ [.n,.n,.is,.is] (λS_ c_ UP US v b=>S_ UP US v b (λr0 r1=>c_ (vwu r0) [⟨23,1,.ints .u64 r1⟩])) N_ (tB N_)
def L92 (N_:Nat):LT:=ao (L91 N_) 316 ⟨[.sl 0,.sl 1],[some (23,1,.ints .u64),some (23,1,.ints .u64)]⟩ [.n,.n,.n,.n,.is,.is] (λS_ c_ UP US WW UC b Ub=>S_ UP US WW UC b Ub (λr0=>c_ (vwu r0) [⟨23,1,.ints .u64 b⟩,⟨23,1,.ints .u64 Ub⟩])) N_ (Ms N_)
def L93 (N_:Nat):LT:=ao (L92 N_) 305 ⟨[.sl 0,.sl 1],[some (23,1,.ints .u64),some (23,1,.ints .u64)]⟩ [.n,.n,.n,.n,.is,.is] (λS_ c_ UP US WW UC b Ub=>S_ UP US WW UC b Ub (λr0 r1=>c_ (vwu r0) [⟨23,1,.ints .u64 r1⟩,⟨23,1,.ints .u64 Ub⟩])) N_ (Jj N_)
def L94 (N_:Nat):LT:=ad (L93 N_) 306 ⟨[.sl 0,.int .u64],[some (23,1,.ints .u64)]⟩ [.n,.n,.i,.is] (λS_ c_ UF Ur n b=>S_ UF Ur n b (λr0 r1=>c_ (.tup [vwr r0,.bool r1]) [⟨23,1,.ints .u64 b⟩])) N_ (FR N_)
def M95 (N_:Nat):LT:=ad (L94 N_) 262 ⟨[.roi .u64,.int .u64],[]⟩ [.is,.i] (λS_ c_ x n=>S_ x n (c_ (.nil) []) (λr0 r1=>c_ (.sl 0 0 r0) [⟨23,1,.ints .u64 r1⟩])) N_ (PE N_)
def L95 (N_:Nat):LT:=ad (L94 N_) 289 ⟨[.roi .u64,.roi .u64],[]⟩ [.is,.is] (λS_ c_ x y=>S_ x y (λr0 r1=>c_ (.tup [vwr r0,vwr r1]) [])) N_ (Ju N_)
def L96 (N_:Nat):LT:=ad (L95 N_) 287 ⟨[.roi .u64,.roi .u64],[]⟩ [.is,.is] (λS_ c_ x y=>S_ x y (λr0=>c_ (vwr r0) [])) N_ (Pe N_)
def L97 (N_:Nat):LT:=ad (L96 N_) 264 ⟨[.ptr 0 0,.bool,.roi .u64,.roi .u64],[some (270,1,.cells [.bool,.nil,.bool,.nil])]⟩ [.b,.is,.is,.b,.b] (λS_ c_ neg a b Ub Ud=>S_ neg a b Ub Ud (λr0 r1 r2 r3=>c_ (.ptr 0 0) [⟨270,1,.cells [.bool r0,vwr r1,.bool r2,vwr r3]⟩])) N_ (Pm N_)
def L98 (N_:Nat):LT:=ad (L97 N_) 265 ⟨[.ptr 0 0,.bool,.roi .u64,.slw 1],[some (270,1,.cells [.bool,.nil,.bool,.nil]),some (23,1,.ints .u64)]⟩ [.b,.is,.b,.b,.is] (λS_ c_ neg a b Ub Ud=>S_ neg a b Ub Ud (λr0 r2=>c_ (.ptr 0 0) [⟨270,1,.cells [.bool r0,vwr a,.bool r2,.slw 1]⟩,⟨23,1,.ints .u64 Ud⟩])) N_ (Pt N_)
def L99 (N_:Nat):LT:=ao (L98 N_) 265 ⟨[.ptr 0 0,.bool,.roi .u64,.roi .u64],[some (270,1,.cells [.bool,.nil,.bool,.nil])]⟩ [.b,.is,.is,.b,.b] (λS_ c_ neg a b Ub Ud=>S_ neg a b Ub Ud (λr0 r2=>c_ (.ptr 0 0) [⟨270,1,.cells [.bool r0,vwr a,.bool r2,vwr b]⟩])) N_ (O6 N_)
def PF (N_:Nat):LT:=ad (L99 N_) 292 ⟨[.ptr 0 0,.rp [.bool,.roi .u64,.bool,.roi .u64] 0],[some (270,1,.cells [.bool,.nil,.bool,.nil])]⟩ [.b,.is,.b,.is,.b,.b] (λS_ c_ UF Ur UD UH b Ub=>S_ UF Ur UD UH b Ub (λr0 r1 r2 r3=>c_ (.ptr 0 0) [⟨270,1,.cells [.bool r0,vwr r1,.bool r2,vwr r3]⟩])) N_ (Px N_)
def PG (N_:Nat):LT:=ad (PF N_) 309 ⟨[.roi .u64,.roi .u64],[]⟩ [.is,.is] (λS_ c_ x y=>S_ x y (λr0=>c_ (vwr r0) [])) N_ (IV N_)
def PH (N_:Nat):LT:=ad (PG N_) 318 ⟨[.roi .u64,.roi .u64],[]⟩ [.is,.is] (λS_ c_ x y=>S_ x y (λr0=>c_ (vwr r0) [])) N_ (uy N_)
def PI (N_:Nat):LT:=ad (PH N_) 310 ⟨[.ptr 0 0,.ptr 0 0,.bool,.roi .u64],[some (264,1,.cells [.bool,.roi .u64])]⟩ [.b,.is,.b,.is] (λS_ c_ neg y b Ub=>S_ neg y b Ub (λr0 r1=>c_ (.ptr 0 0) [⟨264,1,.cells [.bool r0,vwr r1]⟩])) N_ (O9 N_)
def PJ (N_:Nat):LT:=ad (PI N_) 291 ⟨[.ptr 0 0,.rp [.bool,.roi .u64,.bool,.roi .u64] 0,.ptr 1 0],[some (270,1,.cells [.bool,.nil,.bool,.nil]),some (270,1,.cells [.bool,.roi .u64,.bool,.roi .u64])]⟩ [.b,.is,.b,.is,.b,.b,.b,.is,.b,.is] (λS_ c_ UF Ur UD UH b Ub Ud Um Uq UT=>S_ UF Ur UD UH b Ub Ud Um Uq UT (λr0 r1 r2 r3=>c_ (.ptr 0 0) [⟨270,1,.cells [.bool r0,vwr r1,.bool r2,vwr r3]⟩,⟨270,1,.cells [.bool Ud,vwr Um,.bool Uq,vwr UT]⟩])) N_ (O7 N_)
def PK (N_:Nat):LT:=ad (PJ N_) 267 ⟨[.ptr 0 0,.rp [.bool,.roi .u64,.bool,.roi .u64] 0,.rp [.bool,.roi .u64,.bool,.roi .u64] 0],[some (270,1,.cells [.bool,.nil,.bool,.nil])]⟩ [.b,.is,.b,.is,.b,.is,.b,.is,.b,.b] (λS_ c_ UF Ur UD UH Vo UB UQ U7 b Ub=>S_ UF Ur UD UH Vo UB UQ U7 b Ub (λr0 r1 r2 r3=>c_ (.ptr 0 0) [⟨270,1,.cells [.bool r0,vwr r1,.bool r2,vwr r3]⟩])) N_ (I2 N_)
def PL (N_:Nat):LT:=ad (PK N_) 295 ⟨[.ptr 0 0,.bool,.roi .u64,.roi .u64,.roi .u64,.roi .u64],[some (270,1,.cells [.bool,.nil,.bool,.nil])]⟩ [.b,.is,.is,.is,.is,.b,.b] (λS_ c_ neg a b c d Ub Ud=>S_ neg a b c d Ub Ud (λr0 r1 r2 r3=>c_ (.ptr 0 0) [⟨270,1,.cells [.bool r0,vwr r1,.bool r2,vwr r3]⟩])) N_ (O4 N_)
def PM (N_:Nat):LT:=ad (PL N_) 273 ⟨[.ptr 0 0,.rp [.bool,.roi .u64,.bool,.roi .u64] 0,.rp [.bool,.roi .u64,.bool,.roi .u64] 0],[some (270,1,.cells [.bool,.nil,.bool,.nil])]⟩ [.b,.is,.b,.is,.b,.is,.b,.is,.b,.b] (λS_ c_ UF Ur UD UH Vo UB UQ U7 b Ub=>S_ UF Ur UD UH Vo UB UQ U7 b Ub (λr0 r1 r2 r3=>c_ (.ptr 0 0) [⟨270,1,.cells [.bool r0,vwr r1,.bool r2,vwr r3]⟩])) N_ (I1 N_)
def PN (N_:Nat):LT:=ad (PM N_) 294 ⟨[.ptr 0 0,.rp [.bool,.roi .u64,.bool,.roi .u64] 0,.rp [.bool,.roi .u64,.bool,.roi .u64] 0],[some (270,1,.cells [.bool,.nil,.bool,.nil])]⟩ [.b,.is,.b,.is,.b,.is,.b,.is,.b,.b] (λS_ c_ UF Ur UD UH Vo UB UQ U7 b Ub=>S_ UF Ur UD UH Vo UB UQ U7 b Ub (λr0 r1 r2 r3=>c_ (.ptr 0 0) [⟨270,1,.cells [.bool r0,vwr r1,.bool r2,vwr r3]⟩])) N_ (I0 N_)
def PO (N_:Nat):LT:=ao (PN N_) 291 ⟨[.ptr 0 0,.rp [.bool,.roi .u64,.bool,.roi .u64] 0,.rp [.bool,.roi .u64,.bool,.roi .u64] 0],[some (270,1,.cells [.bool,.nil,.bool,.nil])]⟩ [.b,.is,.b,.is,.b,.is,.b,.is,.b,.b] (λS_ c_ UF Ur UD UH Vo UB UQ U7 b Ub=>S_ UF Ur UD UH Vo UB UQ U7 b Ub (λr0 r1 r2 r3=>c_ (.ptr 0 0) [⟨270,1,.cells [.bool r0,vwr r1,.bool r2,vwr r3]⟩])) N_ (Mr N_)
def PP (N_:Nat):LT:=ao (PO N_) 114 ⟨[.ptr 0 0,.ptr 1 0],[some (158,1,.cells [.bool,.nil]),some (158,1,.cells [.bool,.roi .u32])]⟩ [.b,.b,.is] (λS_ c_ b Ub Ud=>S_ b Ub Ud (λr0 r1=>c_ (.ptr 0 0) [⟨158,1,.cells [.bool r0,vws r1]⟩,⟨158,1,.cells [.bool Ub,vws Ud]⟩])) N_ (Je N_)
def PQ (N_:Nat):LT:=ad (PP N_) 118 ⟨[.ptr 0 0,.ptr 1 0],[some (158,1,.cells [.bool,.nil]),some (158,1,.cells [.bool,.roi .u32])]⟩ [.b,.b,.is] (λS_ c_ b Ub Ud=>S_ b Ub Ud (λr0 r1=>c_ (.ptr 0 0) [⟨158,1,.cells [.bool r0,vws r1]⟩,⟨158,1,.cells [.bool Ub,vws Ud]⟩])) N_ (Jd N_)
def PR (N_:Nat):LT:=ad (PQ N_) 119 ⟨[.ptr 0 0,.ptr 1 0,.ptr 2 0],[some (158,1,.cells [.bool,.nil]),some (158,1,.cells [.bool,.roi .u32]),some (158,1,.cells [.bool,.roi .u32])]⟩ [.b,.b,.is,.b,.is] (λS_ c_ b Ub Ud Um Uq=>S_ b Ub Ud Um Uq (λr0 r1=>c_ (.ptr 0 0) [⟨158,1,.cells [.bool r0,vws r1]⟩,⟨158,1,.cells [.bool Ub,vws Ud]⟩,⟨158,1,.cells [.bool Um,vws Uq]⟩])) N_ (PC N_)
def PS (N_:Nat):LT:=upM Pg ij N_ fmd (PR N_) [73,71,72,69,116,68,270,271,247,243,240,239,238,251,275,120,274,117,52,108,179]
def PT (N_:Nat):LT:=ad (PS N_) 211 ⟨[.int .u64,.agg [.int .u64,.int .i64,.int .i64]],[]⟩ [.i,.i,.i,.i] (λS_ c_ b U8 Va Vh=>S_ b U8 Va Vh (λr0 r1 r2=>c_ (.tup [.bool r0,vwi r1,vwu r2]) [])) N_ (Pi N_)
def PU (N_:Nat):LT:=ad (PT N_) 177 ⟨[.int .u64,.agg [.int .u64,.int .i64,.int .i64]],[]⟩ [.i,.i,.i,.i] (λS_ c_ b U8 Va Vh=>S_ b U8 Va Vh (λr0=>c_ (vwi r0) [])) N_ (Ph N_)
def PV (N_:Nat):LT:=ad (PU N_) 86 ⟨[.rof],[]⟩ [.fs] (λS_ c_ l=>S_ l (λr0=>c_ (.bool r0) [])) N_ (I5 N_)
def PW (N_:Nat):LT:=ad (PV N_) 137 ⟨[.agg [.int .i64,.int .i64,.rof]],[]⟩ [.i,.i,.fs] (λS_ c_ UE Uo Uw=>S_ UE Uo Uw (λr0=>c_ (vwi r0) [])) N_ (sC N_)
def PX (N_:Nat):LT:=ad (PW N_) 82 ⟨[.agg [.int .i64,.int .i64,.rof]],[]⟩ [.i,.i,.fs] (λS_ c_ UE Uo Uw=>S_ UE Uo Uw (λr0=>c_ (vwi r0) [])) N_ (Jc N_)
def PY (N_:Nat):LT:=ad (PX N_) 248 ⟨[.agg [.ptr 0 0,.int .i64]],[some (158,1,.cells [.bool,.roi .u32])]⟩ [.i,.b,.is] (λS_ c_ x b Ub=>S_ x b Ub (λr2 r3 r4 r5=>c_ (.ptr 1 0) [⟨158,1,.cells [.bool b,vws Ub]⟩,⟨235,1,.cells [.bool r2,vws r3,.bool r4,vws r5]⟩])) N_ (Pv N_)
def PZ (N_:Nat):LT:=ad (PY N_) 227 ⟨[.ptr 0 0,.ptr 0 0,.ptr 1 0],[some (235,1,.cells [.bool,.roi .u32,.bool,.roi .u32]),some (235,1,.cells [.bool,.roi .u32,.bool,.roi .u32])]⟩ [.b,.is,.b,.is,.b,.is,.b,.is] (λS_ c_ b Ub Ud Um Uq UT Vk VQ=>S_ b Ub Ud Um Uq UT Vk VQ (λr0 r1 r2 r3=>c_ (.ptr 0 0) [⟨235,1,.cells [.bool r0,vws r1,.bool r2,vws r3]⟩,⟨235,1,.cells [.bool Uq,vws UT,.bool Vk,vws VQ]⟩])) N_ (O5 N_)
def P0 (N_:Nat):LT:=ad (PZ N_) 203 ⟨[.agg [.int .i64,.int .i64,.slw 0],.int .i64,.int .i64,.ptr 1 0],[some (231,1,.own 235 RT1),some (235,1,.cells [.bool,.roi .u32,.bool,.roi .u32])]⟩ [.i,.i,.i,.i,.r RT1,.b,.is,.b,.is] (λS_ c_ UE Uo i k_ b Ub Ud Um Uq=>S_ UE Uo i k_ b Ub Ud Um Uq (λr0=>c_ (.tup []) [⟨231,1,.own 235 RT1 r0 []⟩,⟨235,1,.cells [.bool Ub,vws Ud,.bool Um,vws Uq]⟩])) N_ (O8 N_)
def Jz (N_:Nat):LT:=ad (P0 N_) 154 ⟨[.agg [.int .i64,.int .i64,.rl RT2]],[]⟩ [.i,.i,.r RT2] (λS_ c_ UE Uo Uw=>S_ UE Uo Uw (λr0=>c_ (vwi r0) [])) N_ (Jg N_)
def Rr:FnSh:=⟨[.flt],[]⟩
def LS (XL:JG):SPT:=λa_ c_=>match a_ with
 | [.fl x]=>XL x (λr0=>c_ (vwi r0) [])
 | _=>false
abbrev RC (XL:JG):Fs:=fe Rr (LS XL)
def P1 (N_:Nat):LT:=(122,(RC (Ly N_)))::Jz N_
def LD:FnSh:=⟨[.fb],[]⟩
def LO (XI:Oc):SPT:=λa_ c_=>match a_ with
 | [.nat x]=>XI x (λr0=>c_ (vwi r0) [])
 | _=>false
abbrev OP (XI:Oc):Fs:=fe LD (LO XI)
def P2 (N_:Nat):LT:=ad (P1 N_) 75 ⟨[.rof],[]⟩ [.fs] (λS_ c_ l=>S_ l (λr0=>c_ (.bool r0) [])) N_ (Ji N_)
def JA (N_:Nat):LT:=ad (P2 N_) 74 ⟨[.agg [.int .i64,.int .i64,.rof]],[]⟩ [.i,.i,.fs] (λS_ c_ UE Uo Uw=>S_ UE Uo Uw (λr0=>c_ (vwi r0) [])) N_ (Pj N_)
def Rs:FnSh:=⟨[.flt,.flt],[]⟩
def LW (XN:JH):SPT:=λa_ c_=>match a_ with
 | [.fl a,.fl b]=>XN a b (λr0=>c_ (.bool r0) [])
 | _=>false
abbrev RD (XN:JH):Fs:=fe Rs (LW XN)
def P3 (N_:Nat):LT:=(123,(RD (LB N_)))::JA N_
def LG:FnSh:=⟨[.fb,.fb],[]⟩
def LQ (XJ:Od):SPT:=λa_ c_=>match a_ with
 | [.nat a,.nat b]=>XJ a b (λr0=>c_ (.bool r0) [])
 | _=>false
abbrev OQ (XJ:Od):Fs:=fe LG (LQ XJ)
def P4 (N_:Nat):LT:=ad (P3 N_) 76 ⟨[.agg [.int .i64,.int .i64,.rof]],[]⟩ [.i,.i,.fs] (λS_ c_ UE Uo Uw=>S_ UE Uo Uw (λr0=>c_ (.bool r0) [])) N_ (Py N_)
def P5 (N_:Nat):LT:=ad (P4 N_) 258 ⟨[.int .u64,.agg [.int .u64,.int .i64,.int .i64]],[]⟩ [.i,.i,.i,.i] (λS_ c_ b U8 Va Vh=>S_ b U8 Va Vh (λr0 r1 r2 r3=>c_ (.tup [.agg [.bool r0,vwu r1,vwi r2],vwi r3]) [])) N_ (Pw N_)
def P6 (N_:Nat):LT:=ad (P5 N_) 216 ⟨[.agg [.int .i64,.int .i64,.slw 0]],[some (249,1,.recs RT0)]⟩ [.i,.i,.r RT0] (λS_ c_ VS U6 b=>S_ VS U6 b (c_ (.tup []) [⟨249,1,.recs RT0 b⟩])) N_ (cP N_)
def P7 (N_:Nat):LT:=ad (P6 N_) 272 ⟨[.int .i64,.int .i64],[]⟩ [.i,.i] (λS_ c_ a b=>S_ a b (λr0 r1 r2 r3=>c_ (.ptr 0 0) [⟨270,1,.cells [.bool r0,vwr r1,.bool r2,vwr r3]⟩])) N_ (nX N_)
def P8 (N_:Nat):LT:=ad (P7 N_) 245 ⟨[.agg [.int .i64,.int .i64,.slw 0],.int .i64,.int .i64,.agg [.rp [.bool,.roi .u64,.bool,.roi .u64] 0]],[some (249,1,.recs RT0)]⟩ [.i,.i,.i,.i,.b,.is,.b,.is,.r RT0] (λS_ c_ VS U6 i k_ UF Ur UD UH b=>S_ VS U6 i k_ UF Ur UD UH b (λr0=>c_ (.tup []) [⟨249,1,.recs RT0 r0⟩])) N_ (eg N_)
def P9 (N_:Nat):LT:=ad (P8 N_) 45 ⟨[.int .i64,.rof,.flt,.flt],[]⟩ [.i,.fs,.f,.f] (λS_ c_ n h r z=>S_ n h r z (λr0=>c_ (vwi r0) [])) N_ (pK N_)
def P_ (N_:Nat):LT:=ad (P9 N_) 67 ⟨[.agg [.ptr 0 0,.int .i64],.agg [.ptr 1 0,.int .i64]],[some (158,1,.cells [.bool,.roi .u32]),some (158,1,.cells [.bool,.roi .u32])]⟩ [.i,.i,.b,.is,.b,.is] (λS_ c_ x y b Ub Ud Um=>S_ x y b Ub Ud Um (c_ (.agg [.ptr 1 0,vwi y]) [⟨158,1,.cells [.bool b,vws Ub]⟩,⟨158,1,.cells [.bool Ud,vws Um]⟩]) (c_ (.agg [.ptr 0 0,vwi x]) [⟨158,1,.cells [.bool b,vws Ub]⟩,⟨158,1,.cells [.bool Ud,vws Um]⟩]) (λr0 r5 r6=>c_ (.agg [.ptr 2 0,vwi r0]) [⟨158,1,.cells [.bool b,vws Ub]⟩,⟨158,1,.cells [.bool Ud,vws Um]⟩,⟨158,1,.cells [.bool r5,vws r6]⟩])) N_ (GQ3 N_)
def Qa (N_:Nat):LT:=ad (P_ N_) 70 ⟨[.agg [.ptr 0 0,.int .i64],.agg [.ptr 1 0,.int .i64]],[some (158,1,.cells [.bool,.roi .u32]),some (158,1,.cells [.bool,.roi .u32])]⟩ [.i,.i,.b,.is,.b,.is] (λS_ c_ x y b Ub Ud Um=>S_ x y b Ub Ud Um (λr0=>c_ (vwi r0) [⟨158,1,.cells [.bool b,vws Ub]⟩,⟨158,1,.cells [.bool Ud,vws Um]⟩])) N_ (GQ1 N_)
def Qb (N_:Nat):LT:=ad (Qa N_) 24 ⟨[.flt,.flt,.flt,.flt,.flt],[]⟩ [.f,.f,.f,.f,.f] (λS_ c_ x y a b c=>S_ x y a b c (λr0=>c_ (.bool r0) [])) N_ (OW N_)
def Qc (N_:Nat):LT:=upM Pg ij N_ fmd (Qb N_) [246,234,218,85]
def Qd (N_:Nat):LT:=ad (Qc N_) 111 ⟨[.agg [.rof,.int .i64,.int .i64,.rof]],[]⟩ [.fs,.i,.i,.fs] (λS_ c_ XF VL WU W0=>S_ XF VL WU W0 (λr0=>c_ (vwi r0) [])) N_ (pU N_)
def Qe (N_:Nat):LT:=ad (Qd N_) 189 ⟨[.agg [.int .i64,.int .i64,.rof]],[]⟩ [.i,.i,.fs] (λS_ c_ UE Uo Uw=>S_ UE Uo Uw (λr2=>c_ (.agg [vwi UE,vwi Uo,.slw 0]) [⟨231,1,.own 235 RT1 r2 []⟩])) N_ (pR N_)
def Qf (N_:Nat):LT:=ad (Qe N_) 215 ⟨[.flt],[]⟩ [.f] (λS_ c_ x=>S_ x (λr0 r1 r2 r3=>c_ (.agg [.rp [.bool r0,vwr r1,.bool r2,vwr r3] 0]) [])) N_ (iS N_)
def Qg (N_:Nat):LT:=ad (Qf N_) 182 ⟨[.agg [.int .i64,.int .i64,.rof]],[]⟩ [.i,.i,.fs] (λS_ c_ UE Uo Uw=>S_ UE Uo Uw (λr2=>c_ (.agg [vwi UE,vwi Uo,.slw 0]) [⟨249,1,.recs RT0 r2⟩])) N_ (im N_)
def Qh (N_:Nat):LT:=ad (Qg N_) 217 ⟨[.agg [.int .i64,.int .i64,.slw 0]],[some (249,1,.recs RT0)]⟩ [.i,.i,.r RT0] (λS_ c_ VS U6 b=>S_ VS U6 b (λr0 r1=>c_ (vwi r0) [⟨249,1,.recs RT0 r1⟩])) N_ (cY N_)
def Qi (N_:Nat):LT:=upM Pg ij N_ fmd (Qh N_) [183,95,153]
def Qj (N_:Nat):LT:=ad (Qi N_) 65 ⟨[.agg [.rof,.int .i64,.int .i64,.rof]],[]⟩ [.fs,.i,.i,.fs] (λS_ c_ XF VL WU W0=>S_ XF VL WU W0 (λr0=>c_ (vwi r0) [])) N_ (pT N_)
def Qk (N_:Nat):LT:=ad (Qj N_) 125 ⟨[.agg [.int .i64,.int .i64,.rof]],[]⟩ [.i,.i,.fs] (λS_ c_ UE Uo Uw=>S_ UE Uo Uw (λr0 r1=>c_ (.tup [vwi r0,vwi r1]) [])) N_ (iR N_)
def Ql (N_:Nat):LT:=upM Pg ij N_ fmd (Qk N_) [77,23]
def Qm (N_:Nat):LT:=ad (Ql N_) 25 ⟨[.agg [.int .i64,.int .i64,.rof,.rof]],[]⟩ [.i,.i,.fs,.fs] (λS_ c_ UU Ut UM UN=>S_ UU Ut UM UN (λr0=>c_ (vwi r0) [])) N_ (oa N_)
def Qn (N_:Nat):LT:=ad (Qm N_) 92 ⟨[.ptr 0 0,.slw 1,.agg [.int .i64,.int .i64,.slw 2]],[some (107,1,.cells [.bool]),some (36,1,.flts),some (36,1,.flts)]⟩ [.i,.i,.b,.fs,.fs] (λS_ c_ Vo UB b Ub Ud=>S_ Vo UB b Ub Ud (λr0 r1 r2=>c_ (.tup [.agg [vwi r0,vwi r1,.nil,.nil],vwi r2]) [⟨107,1,.cells [.bool b]⟩,⟨36,1,.flts Ub⟩,⟨36,1,.flts Ud⟩]) (λr2=>c_ (.tup [.agg [vwi Vo,vwi UB,.slw 2,.slw 1],vwi r2]) [⟨107,1,.cells [.bool b]⟩,⟨36,1,.flts Ub⟩,⟨36,1,.flts Ud⟩])) N_ (gr N_)
def Qo (N_:Nat):LT:=ad (Qn N_) 50 ⟨[.agg [.int .i64,.int .i64,.slw 0,.slw 1],.fn 63 [.ptr 2 0,.ptr 3 0],.fn 64 [.ptr 2 0]],[some (36,1,.flts),some (36,1,.flts),some (30,1,.cells [.int .i64,.int .i64,.slw 4,.slw 5]),some (3,1,.cells [.int .i64]),some (36,1,.flts),some (36,1,.flts)]⟩ [.i,.i,.fs,.fs,.i,.i,.i,.fs,.fs] (λS_ c_ UU Ut b Ub Ud Um Uq UT Vk=>S_ UU Ut b Ub Ud Um Uq UT Vk (λr0 r1 r2=>c_ (.tup [.agg [vwi r0,vwi r1,.nil,.nil],vwi r2]) [⟨36,1,.flts b⟩,⟨36,1,.flts Ub⟩,⟨30,1,.cells [vwi Ud,vwi Um,.slw 4,.slw 5]⟩,⟨3,1,.cells [vwi Uq]⟩,⟨36,1,.flts UT⟩,⟨36,1,.flts Vk⟩]) (λr0 r1 r2 r10 r11=>c_ (.tup [.agg [vwi r0,vwi r1,.slw 6,.slw 7],vwi r2]) [⟨36,1,.flts b⟩,⟨36,1,.flts Ub⟩,⟨30,1,.cells [vwi Ud,vwi Um,.slw 4,.slw 5]⟩,⟨3,1,.cells [vwi Uq]⟩,⟨36,1,.flts UT⟩,⟨36,1,.flts Vk⟩,⟨36,1,.flts r10⟩,⟨36,1,.flts r11⟩])) N_ (d_ N_)
def Qp (N_:Nat):LT:=ad (Qo N_) 20 ⟨[.agg [.int .i64,.int .i64,.slw 0,.slw 1],.agg [.int .i64,.int .i64,.slw 2,.slw 3]],[some (36,1,.flts),some (36,1,.flts),some (36,1,.flts),some (36,1,.flts)]⟩ [.i,.i,.i,.i,.fs,.fs,.fs,.fs] (λS_ c_ UU Ut Wn Ub b Ud Um Uq=>S_ UU Ut Wn Ub b Ud Um Uq (λr0 r1 r2 r3 r4=>c_ (.tup [.agg [vwi r0,vwi r1,.rof r2,.rof r3],vwi r4]) [⟨36,1,.flts b⟩,⟨36,1,.flts Ud⟩,⟨36,1,.flts Um⟩,⟨36,1,.flts Uq⟩])) N_ (ik N_)
def Qq (N_:Nat):LT:=ao (Qp N_) 50 ⟨[.agg [.int .i64,.int .i64,.rof,.rof],.fn 46 [.ptr 0 0,.ptr 1 0],.fn 49 [.ptr 0 0,.ptr 2 0,.ptr 1 0]],[some (26,1,.cells [.slw 3]),some (36,1,.cells [.flt]),some (36,1,.cells [.flt]),some (36,1,.flts)]⟩ [.i,.i,.fs,.fs,.f,.f,.fs] (λS_ c_ UU Ut UM UN b Ub Ud=>S_ UU Ut UM UN b Ub Ud (λr0 r1 r2=>c_ (.tup [.agg [vwi r0,vwi r1,.nil,.nil],vwi r2]) [⟨26,1,.cells [.slw 3]⟩,⟨36,1,.cells [.flt b]⟩,⟨36,1,.cells [.flt Ub]⟩,⟨36,1,.flts Ud⟩]) (λr0 r1 r2 r6 r7=>c_ (.tup [.agg [vwi r0,vwi r1,.slw 4,.slw 5],vwi r2]) [⟨26,1,.cells [.slw 3]⟩,⟨36,1,.cells [.flt b]⟩,⟨36,1,.cells [.flt Ub]⟩,⟨36,1,.flts Ud⟩,⟨36,1,.flts r6⟩,⟨36,1,.flts r7⟩])) N_ (iQ N_)
def Qr (N_:Nat):LT:=ad (Qq N_) 10 ⟨[.agg [.int .i64,.int .i64,.rof,.rof],.slw 0,.flt,.flt],[some (36,1,.flts)]⟩ [.i,.i,.fs,.fs,.f,.f,.fs] (λS_ c_ UU Ut UM UN r z b=>S_ UU Ut UM UN r z b (λr0 r1 r2 r3 r4=>c_ (.tup [.agg [vwi r0,vwi r1,.rof r2,.rof r3],vwi r4]) [⟨36,1,.flts b⟩])) N_ (kQ N_)
def Qs (N_:Nat):LT:=ao (Qr N_) 50 ⟨[.agg [.int .i64,.int .i64,.slw 0,.slw 1],.fn 46 [.ptr 2 0,.ptr 3 0],.fn 49 [.ptr 2 0,.ptr 4 0,.ptr 3 0]],[some (36,1,.flts),some (36,1,.flts),some (26,1,.cells [.slw 5]),some (36,1,.cells [.flt]),some (36,1,.cells [.flt]),some (36,1,.flts)]⟩ [.i,.i,.fs,.fs,.f,.f,.fs] (λS_ c_ UU Ut b Ub Ud Um Uq=>S_ UU Ut b Ub Ud Um Uq (λr0 r1 r2=>c_ (.tup [.agg [vwi r0,vwi r1,.nil,.nil],vwi r2]) [⟨36,1,.flts b⟩,⟨36,1,.flts Ub⟩,⟨26,1,.cells [.slw 5]⟩,⟨36,1,.cells [.flt Ud]⟩,⟨36,1,.cells [.flt Um]⟩,⟨36,1,.flts Uq⟩]) (λr0 r1 r2 r8 r9=>c_ (.tup [.agg [vwi r0,vwi r1,.slw 6,.slw 7],vwi r2]) [⟨36,1,.flts b⟩,⟨36,1,.flts Ub⟩,⟨26,1,.cells [.slw 5]⟩,⟨36,1,.cells [.flt Ud]⟩,⟨36,1,.cells [.flt Um]⟩,⟨36,1,.flts Uq⟩,⟨36,1,.flts r8⟩,⟨36,1,.flts r9⟩])) N_ (fK N_)
def Qt (N_:Nat):LT:=ao (Qs N_) 10 ⟨[.agg [.int .i64,.int .i64,.slw 0,.slw 1],.slw 2,.flt,.flt],[some (36,1,.flts),some (36,1,.flts),some (36,1,.flts)]⟩ [.i,.i,.f,.f,.fs,.fs,.fs] (λS_ c_ UU Ut r z b Ub Ud=>S_ UU Ut r z b Ub Ud (λr0 r1 r2 r3 r4=>c_ (.tup [.agg [vwi r0,vwi r1,.rof r2,.rof r3],vwi r4]) [⟨36,1,.flts b⟩,⟨36,1,.flts Ub⟩,⟨36,1,.flts Ud⟩])) N_ (il N_)
def Qu (N_:Nat):LT:=ao (Qt N_) 50 ⟨[.agg [.int .i64,.int .i64,.slw 0,.slw 1],.fn 63 [.ptr 2 0,.ptr 3 0],.fn 64 [.ptr 2 0]],[some (36,1,.flts),some (36,1,.flts),some (30,1,.cells [.int .i64,.int .i64,.rof,.rof]),some (3,1,.cells [.int .i64])]⟩ [.i,.i,.fs,.fs,.i,.i,.fs,.fs,.i] (λS_ c_ UU Ut b Ub Ud Um Uq UT Vk=>S_ UU Ut b Ub Ud Um Uq UT Vk (λr0 r1 r2=>c_ (.tup [.agg [vwi r0,vwi r1,.nil,.nil],vwi r2]) [⟨36,1,.flts b⟩,⟨36,1,.flts Ub⟩,⟨30,1,.cells [vwi Ud,vwi Um,.rof Uq,.rof UT]⟩,⟨3,1,.cells [vwi Vk]⟩]) (λr0 r1 r2 r10 r11=>c_ (.tup [.agg [vwi r0,vwi r1,.slw 4,.slw 5],vwi r2]) [⟨36,1,.flts b⟩,⟨36,1,.flts Ub⟩,⟨30,1,.cells [vwi Ud,vwi Um,.rof Uq,.rof UT]⟩,⟨3,1,.cells [vwi Vk]⟩,⟨36,1,.flts r10⟩,⟨36,1,.flts r11⟩])) N_ (fJ N_)
def JB (N_:Nat):LT:=ao (Qu N_) 20 ⟨[.agg [.int .i64,.int .i64,.slw 0,.slw 1],.agg [.int .i64,.int .i64,.rof,.rof]],[some (36,1,.flts),some (36,1,.flts)]⟩ [.i,.i,.i,.i,.fs,.fs,.fs,.fs] (λS_ c_ UU Ut Wn Ub Ud Um b Uq=>S_ UU Ut Wn Ub Ud Um b Uq (λr0 r1 r2 r3 r4=>c_ (.tup [.agg [vwi r0,vwi r1,.rof r2,.rof r3],vwi r4]) [⟨36,1,.flts b⟩,⟨36,1,.flts Uq⟩])) N_ (kP N_)
def LJ:FnSh:=⟨[.roi .u64,.int .i64,.roi .u64,.roi .u64,.roi .u64,.agg [.roi .u64,.int .u64,.int .u64]],[]⟩
end
theorem Ki (w:World) (v:Value):Calls Tryz.prog 181 #[.nilIface,v] w λe w'=>e=.returned v/\w'=w:=
 ME (P:=Tryz.prog) (fc:=181) (fn:=Tryz.f181) (by kernel_rfl) (by kernel_rfl) (by kernel_rfl) rfl rfl rfl rfl rfl rfl rfl rfl rfl rfl rfl rfl rfl rfl rfl rfl rfl rfl rfl (λ_=>rfl) (λ_=>by kernel_rfl) w v
theorem Oh:rV Tryz.prog 180:=
 J8 (P:=Tryz.prog) (g:=180) (fc:=181) (fg:=Tryz.f180) (ff:=Tryz.f181) (by kernel_rfl) (by kernel_rfl) (by kernel_rfl) (by kernel_rfl) rfl (by kernel_rfl) (by kernel_rfl) (by kernel_rfl) (by kernel_rfl) (by kernel_rfl) rfl rfl rfl rfl rfl rfl rfl rfl rfl rfl rfl (by kernel_rfl) (by kernel_rfl) Ki
theorem hD_:HD Tryz.prog ij:=by
 intro g hg h;have e:g=180:=by have h:=Dq h; simp at h; omega
 rcases e with rfl
 exact Oh
end Go.Proofs.YtdinakfmablagaaGreatDoor
end
