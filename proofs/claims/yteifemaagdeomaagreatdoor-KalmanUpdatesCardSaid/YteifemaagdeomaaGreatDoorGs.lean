/-
  WHAT THE FUNCTIONS DO, in tables (written by program).
  Conditions: none.
-/
import Derived.Test.YteifemaagdeomaaGreatDoorGp
import Derived.Test.YteifemaagdeomaaGreatDoorMachT
import Derived.Test.YteifemaagdeomaaGreatDoorProg
set_option linter.unusedVariables false
section
namespace Go.Proofs.YteifemaagdeomaaGreatDoor
open Go Go.Mach Go.Proofs
set_option maxRecDepth 50000
abbrev KV:=V->List Blk->Bool
abbrev SPT:=List Atom->KV->Bool
noncomputable abbrev Pg:Program:=Tryz.prog
def vqs:Nat → List V → List V
  | 0,t=>t
  | n+1,t=>.any::vqs n t
abbrev vwi (z:Int):V:=.int .i64 z
abbrev vwu (z:Int):V:=.int .u64 z
abbrev vwv (z:Int):V:=.int .u32 z
abbrev vwr (l:LI):V:=.roi .u64 l
abbrev vws (l:LI):V:=.roi .u32 l
theorem Su {p:Nat → Prop} (h:p 0):∀ i,i<1 → p i
 | 0,_=>h
 | _+1,g=>by omega
theorem Ru {p:Nat → Prop} (h:p 0) (h1:p 1):∀ i,i<2 → p i
 | 0,_=>h
 | 1,_=>h1
 | _+2,g=>by omega
def sqs:Nat → List Sh → List Sh
 | 0,t=>t
 | n+1,t=>.any::sqs n t
noncomputable def cW:Nat->Bool:=K5 [150,140,53,207,185,225,236,74,23,34,35,56,51,50,65,61,60,59,111,126,108,110,123,125,159,133,195,162,134,118,191,232,226,145,182,183,1000238,1000204,1000203,2000115,3000059,3000079,3000064,4000129,4000077]
abbrev LT:=List (Nat × Fs)
abbrev TbS (A B:Nat->LT):Prop:=∀ N,OKL Pg cW (A N)->OKL Pg cW (B N)
noncomputable def fmd:Nat->Nat:=λg=>(cond (K5 [109,140,142,143,154,155,156,157,158,165,167,169,185,186,187,194,217,222,232] g) 1 (cond (K5 [160,163,164,196,197] g) 2 0))
noncomputable section
def L0 (N_:Nat):LT:=[]
def Rn:FnSh:=⟨[.fb],[]⟩
def Oq (abx:JQ):SPT:=λa_ c_=>match a_ with
 | [.nat a0]=>abx a0 (λr0=>c_ (vwu r0) [])
 | _=>false
abbrev Rv (abx:JQ):Fs:=jl Rn (Oq abx)
def L1 (N_:Nat):LT:=(40,(Rv (BE N_)))::L0 N_
def Nv:FnSh:=⟨[.int .u64],[]⟩
def LO (Z9:Ed):SPT:=λa_ c_=>match a_ with
 | [.int a0]=>Z9 a0 (λr0=>c_ (.flt r0) [])
 | _=>false
abbrev NA (Z9:Ed):Fs:=jl Nv (LO Z9)
def L2 (N_:Nat):LT:=(36,(NA (yM N_)))::L1 N_
def L3 (N_:Nat):LT:=ad (L2 N_) 9 ⟨[.roi .u64],[]⟩ [.is] (λS_ c_ l=>S_ l (λr0=>c_ (.slw 0) [⟨33,1,.flts r0⟩])) N_ (sU N_)
def GY:FnSh:=⟨[.flt],[]⟩
def LN (Z8:Ec):SPT:=λa_ c_=>match a_ with
 | [.fl a0]=>Z8 a0 (λr0=>c_ (vwu r0) [])
 | _=>false
abbrev Nz (Z8:Ec):Fs:=jl GY (LN Z8)
def L4 (N_:Nat):LT:=(40,(Bx (Nz (wH N_)) (ofL (L3 N_) 40) GY))::L3 N_
def L5 (N_:Nat):LT:=ad (L4 N_) 206 ⟨[.int .u64],[]⟩ [.i] (λS_ c_ x=>S_ x (λr0=>c_ (vwi r0) [])) N_ (Me N_)
def L6 (N_:Nat):LT:=ad (L5 N_) 207 ⟨[.slw 0],[some (23,1,.ints .u64)]⟩ [.is] (λS_ c_ b=>S_ b (λr0=>c_ (.sl 0 0 r0) [⟨23,1,.ints .u64 b⟩])) N_ (OW N_)
def L7 (N_:Nat):LT:=ad (L6 N_) 188 ⟨[.roi .u64,.int .u64],[]⟩ [.is,.i] (λS_ c_ x n=>S_ x n (λr0=>c_ (vwr r0) [])) N_ (sQ N_)
def L8 (N_:Nat):LT:=ad (L7 N_) 209 ⟨[.roi .u64,.roi .u64],[]⟩ [.is,.is] (λS_ c_ x y=>S_ x y (λr0=>c_ (vwi r0) [])) N_ (Jh N_)
def L9 (N_:Nat):LT:=ad (L8 N_) 231 ⟨[.int .u64],[]⟩ [.i] (λS_ c_ x=>S_ x (λr0=>c_ (vwi r0) [])) N_ (Pb N_)
def L10 (N_:Nat):LT:=ad (L9 N_) 218 ⟨[.roi .u64],[]⟩ [.is] (λS_ c_ x=>S_ x (λr0=>c_ (vwi r0) [])) N_ (ot N_)
def L11 (N_:Nat):LT:=ad (L10 N_) 219 ⟨[.int .u64,.int .u64],[]⟩ [.i,.i] (λS_ c_ x y=>S_ x y (λr0 r1 r2 r3 r4=>c_ (.agg [vwu r0,vwu r1,vwu r2,vwu r3,.bool r4]) [])) N_ (vO N_)
def L12 (N_:Nat):LT:=ad (L11 N_) 227 ⟨[.int .u64,.int .u64],[]⟩ [.i,.i] (λS_ c_ x y=>S_ x y (λr0 r1=>c_ (.tup [vwu r0,vwu r1]) [])) N_ (Je N_)
def SE:FnSh:=⟨[.int .u64,.int .u64,.int .u64],[]⟩
def SI (SQ6:QF):SPT:=λa_ c_=>match a_ with
 | [.int a0,.int a1,.int a2]=>SQ6 a0 a1 a2 (λr0 r1=>c_ (.tup [vwu r0,vwu r1]) [])
 | _=>false
abbrev FQ6 (SQ6:QF):Fs:=jl SE (SI SQ6)
def L13 (N_:Nat):LT:=(228,(FQ6 (sQ6 N_)))::L12 N_
def L14 (N_:Nat):LT:=ad (L13 N_) 211 ⟨[.int .u64,.int .u64,.int .u64,.int .u64],[]⟩ [.i,.i,.i,.i] (λS_ c_ a b c d=>S_ a b c d (λr0 r1=>c_ (.tup [vwu r0,vwu r1]) [])) N_ (sP N_)
def L15 (N_:Nat):LT:=ad (L14 N_) 234 ⟨[.roi .u64,.int .u64,.int .u64],[]⟩ [.is,.i,.i] (λS_ c_ x d more=>S_ x d more (λr0=>c_ (vwr r0) [])) N_ (Jq N_)
def SF:FnSh:=⟨[.int .u64,.int .u64,.int .u64],[]⟩
def SJ (SQ9:QG):SPT:=λa_ c_=>match a_ with
 | [.int a0,.int a1,.int a2]=>SQ9 a0 a1 a2 (λr0 r1=>c_ (.tup [vwu r0,vwu r1]) [])
 | _=>false
abbrev FQ9 (SQ9:QG):Fs:=jl SF (SJ SQ9)
def L16 (N_:Nat):LT:=(237,(FQ9 (sQ9 N_)))::L15 N_
def L17 (N_:Nat):LT:=ao (L16 N_) 207 ⟨[.sl 0],[some (23,1,.ints .u64)]⟩ [.n,.n,.is] (λS_ c_ Vs UQ b=>S_ Vs UQ b (λr1=>c_ (.sl 0 Vs r1) [⟨23,1,.ints .u64 b⟩])) N_ (ou N_)
def L18 (N_:Nat):LT:=ad (L17 N_) 192 ⟨[.roi .u64,.roi .u64],[]⟩ [.is,.is] (λS_ c_ x y=>S_ x y (λr0=>c_ (vwr r0) [])) N_ (I1 N_)
def L19 (N_:Nat):LT:=ad (L18 N_) 159 ⟨[.agg [.int .i64,.int .i64,.slw 0],.int .i64,.int .i64],[some (179,1,.recs RT1)]⟩ [.i,.i,.i,.i,.r RT1] (λS_ c_ X8 Wf i j b=>S_ X8 Wf i j b (λr0 r1 r2 r3=>c_ (.agg [.rp [.bool r0,vwr r1,.bool r2,vwr r3] 0]) [⟨179,1,.recs RT1 b⟩])) N_ (eQ N_)
def L20 (N_:Nat):LT:=ad (L19 N_) 214 ⟨[.rp [.bool,.roi .u64,.bool,.roi .u64] 0],[]⟩ [.b,.is,.b,.is] (λS_ c_ Vs UQ Vg Vt=>S_ Vs UQ Vg Vt (λr0=>c_ (vwi r0) [])) N_ (JC N_)
def L21 (N_:Nat):LT:=ad (L20 N_) 60 ⟨[.agg [.int .i64,.int .i64,.rof],.int .i64],[]⟩ [.i,.i,.fs,.i] (λS_ c_ U_ Uy UV i=>S_ U_ Uy UV i (λr0=>c_ (.rof r0) [])) N_ (ow N_)
def IE:FnSh:=⟨[.flt],[]⟩
def yU (Yg:xv):SPT:=λa_ c_=>match a_ with
 | [.fl x]=>Yg x (λr0=>c_ (.flt r0) [])
 | _=>false
abbrev FZ (Yg:xv):Fs:=jl IE (yU Yg)
def L22 (N_:Nat):LT:=(105,(FZ (uG N_)))::L21 N_
def LD:FnSh:=⟨[.fb],[]⟩
def LQ (abz:NR):SPT:=λa_ c_=>match a_ with
 | [.nat x]=>abz x (λr0=>c_ (.flt r0) [])
 | _=>false
abbrev Oz (abz:NR):Fs:=jl LD (LQ abz)
def L23 (N_:Nat):LT:=ad (L22 N_) 91 ⟨[.flt,.int .i64],[]⟩ [.f,.i] (λS_ c_ f sign=>S_ f sign (λr0=>c_ (.bool r0) [])) N_ (rz N_)
def L24 (N_:Nat):LT:=ad1 1 (L23 N_) 64 ⟨[.ptr 0 0,.flt],[some (85,1,.cells [.bool,.rof,.int .i64,.int .i64,.rof,.rof,.flt,.flt,.nil,.nil,.flt])]⟩ [.f,.b,.fs,.i,.i,.fs,.fs,.f,.f,.f] (λS_ c_ x b Us Uw UA UH UJ UU UY U6=>S_ x b Us Uw UA UH UJ UU UY U6 (λr1=>c_ (.flt x) (.bool r1))) N_ (pC N_)
def L25 (N_:Nat):LT:=ad1 1 (L24 N_) 79 ⟨[.ptr 0 0,.flt,.flt],[some (85,1,.cells [.bool,.rof,.int .i64,.int .i64,.rof,.rof,.flt,.flt,.nil,.nil,.flt])]⟩ [.f,.f,.b,.fs,.i,.i,.fs,.fs,.f,.f,.f] (λS_ c_ a b Us Uw UA UH UJ UU UY U6 Vb=>S_ a b Us Uw UA UH UJ UU UY U6 Vb (λr0 r1=>c_ (.flt r0) (.bool r1))) N_ (nH N_)
def L26 (N_:Nat):LT:=ad1 1 (L25 N_) 59 ⟨[.ptr 0 0,.rof,.rof],[some (85,1,.cells [.bool,.rof,.int .i64,.int .i64,.rof,.rof,.flt,.flt,.nil,.nil,.flt])]⟩ [.fs,.fs,.b,.fs,.i,.i,.fs,.fs,.f,.f,.f] (λS_ c_ a b Us Uw UA UH UJ UU UY U6 Vb=>S_ a b Us Uw UA UH UJ UU UY U6 Vb (λr0 r1=>c_ (.flt r0) (.bool r1))) N_ (uP N_)
def L27 (N_:Nat):LT:=ao1 1 (L26 N_) 64 ⟨[.ptr 0 0,.flt],[some (85,1,.cells [.bool,.rof,.int .i64,.int .i64,.rof,.rof,.flt,.flt,.slw 1,.nil,.flt]),some (33,1,.flts)]⟩ [.f,.b,.fs,.i,.i,.fs,.fs,.f,.f,.f,.fs] (λS_ c_ x b Us Uw UA UH UJ UU UY U6 Vb=>S_ x b Us Uw UA UH UJ UU UY U6 Vb (λr1=>c_ (.flt x) (.bool r1))) N_ (OO N_)
def L28 (N_:Nat):LT:=ao1 1 (L27 N_) 79 ⟨[.ptr 0 0,.flt,.flt],[some (85,1,.cells [.bool,.rof,.int .i64,.int .i64,.rof,.rof,.flt,.flt,.slw 1,.nil,.flt]),some (33,1,.flts)]⟩ [.f,.f,.b,.fs,.i,.i,.fs,.fs,.f,.f,.f,.fs] (λS_ c_ a b Us Uw UA UH UJ UU UY U6 Vb UF=>S_ a b Us Uw UA UH UJ UU UY U6 Vb UF (λr0 r1=>c_ (.flt r0) (.bool r1))) N_ (Pa N_)
def L29 (N_:Nat):LT:=ao1 1 (L28 N_) 59 ⟨[.ptr 0 0,.rof,.rof],[some (85,1,.cells [.bool,.rof,.int .i64,.int .i64,.rof,.rof,.flt,.flt,.slw 1,.nil,.flt]),some (33,1,.flts)]⟩ [.fs,.fs,.b,.fs,.i,.i,.fs,.fs,.f,.f,.f,.fs] (λS_ c_ a b Us Uw UA UH UJ UU UY U6 Vb UF=>S_ a b Us Uw UA UH UJ UU UY U6 Vb UF (λr0 r1=>c_ (.flt r0) (.bool r1))) N_ (O_ N_)
def L30 (N_:Nat):LT:=ao1 1 (L29 N_) 59 ⟨[.ptr 0 0,.rof,.slw 1],[some (85,1,.cells [.bool,.rof,.int .i64,.int .i64,.rof,.rof,.flt,.flt,.slw 1,.nil,.flt]),some (33,1,.flts)]⟩ [.fs,.b,.fs,.i,.i,.fs,.fs,.f,.f,.f,.fs] (λS_ c_ a b Us Uw UA UH UJ UU UY U6 Vb=>S_ a b Us Uw UA UH UJ UU UY U6 Vb (λr0 r1=>c_ (.flt r0) (.bool r1))) N_ (O7 N_)
def L31 (N_:Nat):LT:=ad1 2 (L30 N_) 77 ⟨[.ptr 0 0],[some (85,1,.cells [.bool,.rof,.int .i64,.int .i64,.rof,.rof,.flt,.flt,.slw 1,.nil,.flt]),some (33,1,.flts)]⟩ [.b,.fs,.i,.i,.fs,.fs,.f,.f,.f,.fs] (λS_ c_ b Us Uw UA UH UJ UU UY U6 Vb=>S_ b Us Uw UA UH UJ UU UY U6 Vb (c_ (.bool b) (.any))) N_ (Jb N_)
def L32 (N_:Nat):LT:=ad (L31 N_) 101 ⟨[.int .i64,.int .i64,.int .i64],[]⟩ [.i,.i,.i] (λS_ c_ rows cols n=>S_ rows cols n (λr0=>c_ (vwi r0) [])) N_ (qi N_)
def L33 (N_:Nat):LT:=ad (L32 N_) 95 ⟨[.int .i64,.int .u64,.int .i64],[]⟩ [.i,.i,.i] (λS_ c_ exp frac most=>S_ exp frac most (λr0=>c_ (vwi r0) [])) N_ (JE N_)
def L34 (N_:Nat):LT:=ad (L33 N_) 201 ⟨[.int .u64,.int .i64],[]⟩ [.i,.i] (λS_ c_ m e=>S_ m e (λr0 r1=>c_ (.tup [vwu r0,vwi r1]) [])) N_ (rB N_)
def L35 (N_:Nat):LT:=ad (L34 N_) 150 ⟨[.slw 0],[some (195,1,.ints .u32)]⟩ [.is] (λS_ c_ b=>S_ b (λr0=>c_ (.sl 0 0 r0) [⟨195,1,.ints .u32 b⟩])) N_ (OM N_)
def L36 (N_:Nat):LT:=ad (L35 N_) 202 ⟨[.int .u64],[]⟩ [.i] (λS_ c_ n=>S_ n (λr0=>c_ (vws r0) [])) N_ (Jz N_)
def L37 (N_:Nat):LT:=ao (L36 N_) 150 ⟨[.roi .u32],[]⟩ [.is] (λS_ c_ m=>S_ m (λr0=>c_ (vws r0) [])) N_ (uR N_)
def L38 (N_:Nat):LT:=ad (L37 N_) 181 ⟨[.roi .u32,.int .u64],[]⟩ [.is,.i] (λS_ c_ m n=>S_ m n (λr0=>c_ (vws r0) [])) N_ (sS N_)
def L39 (N_:Nat):LT:=ad (L38 N_) 174 ⟨[.int .u32],[]⟩ [.i] (λS_ c_ x=>S_ x (λr0=>c_ (vwi r0) [])) N_ (Md N_)
def L40 (N_:Nat):LT:=ad (L39 N_) 144 ⟨[.ptr 0 0],[some (151,1,.cells [.bool,.roi .u32])]⟩ [.b,.is] (λS_ c_ b Us=>S_ b Us (λr0=>c_ (vwu r0) [⟨151,1,.cells [.bool b,vws Us]⟩])) N_ (GQ5 N_)
def L41 (N_:Nat):LT:=ad (L40 N_) 145 ⟨[.roi .u32,.int .u64],[]⟩ [.is,.i] (λS_ c_ m n=>S_ m n (λr0=>c_ (vws r0) [])) N_ (Pc N_)
def L42 (N_:Nat):LT:=ad (L41 N_) 175 ⟨[.int .u32],[]⟩ [.i] (λS_ c_ x=>S_ x (λr0=>c_ (vwi r0) [])) N_ (Jk N_)
def L43 (N_:Nat):LT:=ad (L42 N_) 146 ⟨[.ptr 0 0],[some (151,1,.cells [.bool,.roi .u32])]⟩ [.b,.is] (λS_ c_ b Us=>S_ b Us (λr0=>c_ (vwi r0) [⟨151,1,.cells [.bool b,vws Us]⟩])) N_ (O9 N_)
def L44 (N_:Nat):LT:=ad (L43 N_) 148 ⟨[.roi .u32,.roi .u32],[]⟩ [.is,.is] (λS_ c_ a b=>S_ a b (λr0=>c_ (vwi r0) [])) N_ (IY N_)
def L45 (N_:Nat):LT:=ad (L44 N_) 177 ⟨[.roi .u32,.int .i64],[]⟩ [.is,.i] (λS_ c_ m Z0=>S_ m Z0 (λr0=>c_ (vwu r0) [])) N_ (sR N_)
def L46 (N_:Nat):LT:=ad (L45 N_) 176 ⟨[.int .u64,.int .u64],[]⟩ [.i,.i] (λS_ c_ x y=>S_ x y (λr0 r1 r2 r3=>c_ (.tup [vwi r0,vwi r1,vwi r2,vwi r3]) [])) N_ (qe N_)
def L47 (N_:Nat):LT:=ad (L46 N_) 179 ⟨[.roi .u32,.int .u32],[]⟩ [.is,.i] (λS_ c_ m d=>S_ m d (λr0 r1=>c_ (.tup [vws r0,vwv r1]) [])) N_ (qb N_)
def L48 (N_:Nat):LT:=ad (L47 N_) 182 ⟨[.sl 0,.sl 1,.int .i64,.int .u64],[some (195,1,.ints .u32),some (195,1,.ints .u32)]⟩ [.n,.n,.n,.n,.i,.i,.is,.is] (λS_ c_ VL Vc d_0 VE j g b Us=>S_ VL Vc d_0 VE j g b Us (λr0 r1=>c_ (.bool r0) [⟨195,1,.ints .u32 r1⟩,⟨195,1,.ints .u32 Us⟩])) N_ (Js N_)
def L49 (N_:Nat):LT:=ad (L48 N_) 183 ⟨[.sl 0,.sl 1,.int .i64],[some (195,1,.ints .u32),some (195,1,.ints .u32)]⟩ [.n,.n,.n,.n,.i,.is,.is] (λS_ c_ VL Vc d_0 VE j b Us=>S_ VL Vc d_0 VE j b Us (λr0=>c_ (.tup []) [⟨195,1,.ints .u32 r0⟩,⟨195,1,.ints .u32 Us⟩])) N_ (Jt N_)
def L50 (N_:Nat):LT:=ao (L49 N_) 150 ⟨[.sl 0],[some (195,1,.ints .u32)]⟩ [.n,.n,.is] (λS_ c_ U_ Uy b=>S_ U_ Uy b (λr1=>c_ (.sl 0 U_ r1) [⟨195,1,.ints .u32 b⟩])) N_ (p_ N_)
def L51 (N_:Nat):LT:=ao (L50 N_) 145 ⟨[.sl 0,.int .u64],[some (195,1,.ints .u32)]⟩ [.n,.n,.i,.is] (λS_ c_ U_ Uy n b=>S_ U_ Uy n b (λr0=>c_ (vws r0) [⟨195,1,.ints .u32 b⟩])) N_ (JB N_)
def L52 (N_:Nat):LT:=ad (L51 N_) 128 ⟨[.roi .u32,.roi .u32],[]⟩ [.is,.is] (λS_ c_ a b=>S_ a b (λr0=>c_ (vws r0) [])) N_ (I2 N_)
def L53 (N_:Nat):LT:=ad (L52 N_) 204 ⟨[.roi .u32,.roi .u32],[]⟩ [.is,.is] (λS_ c_ a b=>S_ a b (λr0=>c_ (vws r0) [])) N_ (qa N_)
def L54 (N_:Nat):LT:=ad (L53 N_) 205 ⟨[.roi .u32,.int .u64,.roi .u32,.int .u64],[]⟩ [.is,.i,.is,.i] (λS_ c_ a u b v=>S_ a u b v (λr0=>c_ (vws r0) [])) N_ (JD N_)
def L55 (N_:Nat):LT:=ad (L54 N_) 178 ⟨[.roi .u32,.int .i64,.roi .u32,.int .i64],[]⟩ [.is,.i,.is,.i] (λS_ c_ a u b v=>S_ a u b v (λr0=>c_ (vws r0) [])) N_ (rA N_)
def L56 (N_:Nat):LT:=ad (L55 N_) 122 ⟨[.int .i64,.int .i64],[]⟩ [.i,.i] (λS_ c_ rows cols=>S_ rows cols (λr2=>c_ (.agg [vwi rows,vwi cols,.slw 0]) [⟨146,1,.own 153 RT2 r2 []⟩])) N_ (ox N_)
def L57 (N_:Nat):LT:=ad (L56 N_) 124 ⟨[.rp [.bool,.roi .u32,.bool,.roi .u32] 0],[]⟩ [.b,.is,.b,.is] (λS_ c_ z_0 V7 z_2 z_3=>S_ z_0 V7 z_2 z_3 (λr0=>c_ (vwi r0) [])) N_ (uX N_)
def L58 (N_:Nat):LT:=ad (L57 N_) 203 ⟨[.roi .u32,.roi .u32],[]⟩ [.is,.is] (λS_ c_ a b=>S_ a b (λr0=>c_ (vws r0) [])) N_ (sT N_)
def L59 (N_:Nat):LT:=ad (L58 N_) 51 ⟨[.agg [.int .i64,.int .i64,.rof],.int .i64],[]⟩ [.i,.i,.fs,.i] (λS_ c_ U_ Uy UV i=>S_ U_ Uy UV i (λr0=>c_ (.rof r0) [])) N_ (uT N_)
def L60 (N_:Nat):LT:=ao1 1 (L59 N_) 64 ⟨[.ptr 0 0,.flt],[some (85,1,.cells [.bool,.rof,.int .i64,.int .i64,.rof,.rof,.flt,.flt,.slw 1,.slw 2,.flt]),some (33,1,.flts),some (33,1,.flts)]⟩ [.f,.b,.fs,.i,.i,.fs,.fs,.f,.f,.f,.fs,.fs] (λS_ c_ x b Us Uw UA UH UJ UU UY U6 Vb UF=>S_ x b Us Uw UA UH UJ UU UY U6 Vb UF (λr1=>c_ (.flt x) (.bool r1))) N_ (GQ7 N_)
def L61 (N_:Nat):LT:=ao1 1 (L60 N_) 79 ⟨[.ptr 0 0,.flt,.flt],[some (85,1,.cells [.bool,.rof,.int .i64,.int .i64,.rof,.rof,.flt,.flt,.slw 1,.slw 2,.flt]),some (33,1,.flts),some (33,1,.flts)]⟩ [.f,.f,.b,.fs,.i,.i,.fs,.fs,.f,.f,.f,.fs,.fs] (λS_ c_ a b Us Uw UA UH UJ UU UY U6 Vb UF U7=>S_ a b Us Uw UA UH UJ UU UY U6 Vb UF U7 (λr0 r1=>c_ (.flt r0) (.bool r1))) N_ (GQ8 N_)
def L62 (N_:Nat):LT:=ao (L61 N_) 60 ⟨[.agg [.int .i64,.int .i64,.slw 0],.int .i64],[some (33,1,.flts)]⟩ [.i,.i,.i,.fs] (λS_ c_ U_ Uy i b=>S_ U_ Uy i b (λr0 r1=>c_ (.sl 0 r0 r1) [⟨33,1,.flts b⟩])) N_ (mo N_)
def L63 (N_:Nat):LT:=ad (L62 N_) 90 ⟨[.agg [.int .i64,.int .i64,.rof],.int .i64],[]⟩ [.i,.i,.fs,.i] (λS_ c_ U_ Uy UV j=>S_ U_ Uy UV j (λr0=>c_ (.slw 0) [⟨33,1,.flts r0⟩])) N_ (ov N_)
def L64 (N_:Nat):LT:=ao1 1 (L63 N_) 59 ⟨[.ptr 0 0,.sl 1,.slw 2],[some (85,1,.cells [.bool,.rof,.int .i64,.int .i64,.rof,.rof,.flt,.flt,.slw 3,.slw 4,.flt]),some (33,1,.flts),some (33,1,.flts),some (33,1,.flts),some (33,1,.flts)]⟩ [.n,.n,.b,.fs,.i,.i,.fs,.fs,.f,.f,.f,.fs,.fs,.fs,.fs] (λS_ c_ WK U4 b Us Uw UA UH UJ UU UY U6 Vb UF U7 VF=>S_ WK U4 b Us Uw UA UH UJ UU UY U6 Vb UF U7 VF (λr0 r1=>c_ (.flt r0) (.bool r1))) N_ (OT N_)
def L65 (N_:Nat):LT:=ad (L64 N_) 61 ⟨[.ptr 0 0,.agg [.int .i64,.int .i64,.slw 1],.agg [.int .i64,.int .i64,.rof]],[some (85,1,.cells [.bool,.rof,.int .i64,.int .i64,.rof,.rof,.flt,.flt,.slw 2,.slw 3,.flt]),some (33,1,.flts),some (33,1,.flts),some (33,1,.flts)]⟩ [.i,.i,.i,.i,.fs,.b,.fs,.i,.i,.fs,.fs,.f,.f,.f,.fs,.fs,.fs] (λS_ c_ WK U4 XT Us Uw b UA UH UJ UU UY U6 Vb UF U7 VF VN=>S_ WK U4 XT Us Uw b UA UH UJ UU UY U6 Vb UF U7 VF VN (λr2 r14=>c_ (.agg [vwi WK,vwi Us,.slw 4]) [⟨85,1,.cells [.bool r2,.rof UA,vwi UH,vwi UJ,.rof UU,.rof UY,.flt U6,.flt Vb,.slw 2,.slw 3,.flt UF]⟩,⟨33,1,.flts U7⟩,⟨33,1,.flts VF⟩,⟨33,1,.flts VN⟩,⟨33,1,.flts r14⟩])) N_ (db N_)
def L66 (N_:Nat):LT:=ao1 1 (L65 N_) 59 ⟨[.ptr 0 0,.sl 1,.sl 2],[some (85,1,.cells [.bool,.rof,.int .i64,.int .i64,.rof,.rof,.flt,.flt,.slw 3,.slw 4,.flt]),some (33,1,.flts),some (33,1,.flts),some (33,1,.flts),some (33,1,.flts)]⟩ [.n,.n,.n,.n,.b,.fs,.i,.i,.fs,.fs,.f,.f,.f,.fs,.fs,.fs,.fs] (λS_ c_ WK U4 XT Us b Uw UA UH UJ UU UY U6 Vb UF U7 VF VN=>S_ WK U4 XT Us b Uw UA UH UJ UU UY U6 Vb UF U7 VF VN (λr0 r1=>c_ (.flt r0) (.bool r1))) N_ (OR N_)
def L67 (N_:Nat):LT:=ad (L66 N_) 80 ⟨[.int .i64,.int .i64,.ptr 0 0,.ptr 1 0,.ptr 2 0],[some (79,1,.cells [.ptr 3 0]),some (28,1,.cells [.int .i64,.int .i64,.slw 4]),some (28,1,.cells [.int .i64,.int .i64,.slw 5]),some (85,1,.cells [.bool,.rof,.int .i64,.int .i64,.rof,.rof,.flt,.flt,.slw 6,.slw 7,.flt]),some (33,1,.flts),some (33,1,.flts),some (33,1,.flts),some (33,1,.flts)]⟩ [.i,.i,.i,.i,.i,.i,.b,.fs,.i,.i,.fs,.fs,.f,.f,.f,.fs,.fs,.fs,.fs] (λS_ c_ i j b Us Uw UA UH UJ UU UY U6 Vb UF U7 VF VN WV WM V4=>S_ i j b Us Uw UA UH UJ UU UY U6 Vb UF U7 VF VN WV WM V4 (λr0 r5=>c_ (.flt r0) [⟨79,1,.cells [.ptr 3 0]⟩,⟨28,1,.cells [vwi b,vwi Us,.slw 4]⟩,⟨28,1,.cells [vwi Uw,vwi UA,.slw 5]⟩,⟨85,1,.cells [.bool r5,.rof UJ,vwi UU,vwi UY,.rof U6,.rof Vb,.flt UF,.flt U7,.slw 6,.slw 7,.flt VF]⟩,⟨33,1,.flts VN⟩,⟨33,1,.flts WV⟩,⟨33,1,.flts WM⟩,⟨33,1,.flts V4⟩])) N_ (bt N_)
def L68 (N_:Nat):LT:=ad (L67 N_) 62 ⟨[.int .i64,.fn 80 [.ptr 0 0,.ptr 1 0,.ptr 2 0]],[some (79,1,.cells [.ptr 3 0]),some (28,1,.cells [.int .i64,.int .i64,.slw 4]),some (28,1,.cells [.int .i64,.int .i64,.slw 5]),some (85,1,.cells [.bool,.rof,.int .i64,.int .i64,.rof,.rof,.flt,.flt,.slw 6,.slw 7,.flt]),some (33,1,.flts),some (33,1,.flts),some (33,1,.flts),some (33,1,.flts)]⟩ [.i,.i,.i,.i,.i,.b,.fs,.i,.i,.fs,.fs,.f,.f,.f,.fs,.fs,.fs,.fs] (λS_ c_ n b Us Uw UA UH UJ UU UY U6 Vb UF U7 VF VN WV WM V4=>S_ n b Us Uw UA UH UJ UU UY U6 Vb UF U7 VF VN WV WM V4 (λr6 r19=>c_ (.agg [vwi n,vwi n,.slw 8]) [⟨79,1,.cells [.ptr 3 0]⟩,⟨28,1,.cells [vwi b,vwi Us,.slw 4]⟩,⟨28,1,.cells [vwi Uw,vwi UA,.slw 5]⟩,⟨85,1,.cells [.bool r6,.rof UJ,vwi UU,vwi UY,.rof U6,.rof Vb,.flt UF,.flt U7,.slw 6,.slw 7,.flt VF]⟩,⟨33,1,.flts VN⟩,⟨33,1,.flts WV⟩,⟨33,1,.flts WM⟩,⟨33,1,.flts V4⟩,⟨33,1,.flts r19⟩])) N_ (cd N_)
def L69 (N_:Nat):LT:=ad (L68 N_) 43 ⟨[.ptr 0 0],[some (85,1,.cells [.bool,.rof,.int .i64,.int .i64,.rof,.rof,.flt,.flt,.slw 1,.slw 2,.flt]),some (33,1,.flts),some (33,1,.flts)]⟩ [.b,.fs,.i,.i,.fs,.fs,.f,.f,.f,.fs,.fs] (λS_ c_ b Us Uw UA UH UJ UU UY U6 Vb UF=>S_ b Us Uw UA UH UJ UU UY U6 Vb UF (λr0 r1 r2 r13=>c_ (.agg [vwi r0,vwi r1,.slw 3]) [⟨85,1,.cells [.bool r2,.rof Us,vwi Uw,vwi UA,.rof UH,.rof UJ,.flt UU,.flt UY,.slw 1,.slw 2,.flt U6]⟩,⟨33,1,.flts Vb⟩,⟨33,1,.flts UF⟩,⟨33,1,.flts r13⟩])) N_ (cA N_)
def L70 (N_:Nat):LT:=ao1 2 (L69 N_) 77 ⟨[.ptr 0 0],[some (85,1,.cells [.bool,.rof,.int .i64,.int .i64,.rof,.rof,.flt,.flt,.slw 1,.slw 2,.flt]),some (33,1,.flts),some (33,1,.flts)]⟩ [.b,.fs,.i,.i,.fs,.fs,.f,.f,.f,.fs,.fs] (λS_ c_ b Us Uw UA UH UJ UU UY U6 Vb UF=>S_ b Us Uw UA UH UJ UU UY U6 Vb UF (c_ (.bool b) (.any))) N_ (Mh N_)
def L71 (N_:Nat):LT:=ao (L70 N_) 51 ⟨[.agg [.int .i64,.int .i64,.slw 0],.int .i64],[some (33,1,.flts)]⟩ [.i,.i,.i,.fs] (λS_ c_ U_ Uy i b=>S_ U_ Uy i b (λr0 r1=>c_ (.sl 0 r0 r1) [⟨33,1,.flts b⟩])) N_ (qj N_)
def L72 (N_:Nat):LT:=ad (L71 N_) 82 ⟨[.int .i64,.int .i64,.ptr 0 0,.ptr 1 0],[some (79,1,.cells [.ptr 2 0]),some (3,1,.cells [.int .i64]),some (85,1,.cells [.bool,.rof,.int .i64,.int .i64,.rof,.rof,.flt,.flt,.slw 3,.slw 4,.flt]),some (33,1,.flts),some (33,1,.flts)]⟩ [.i,.i,.i,.b,.fs,.i,.i,.fs,.fs,.f,.f,.f,.fs,.fs] (λS_ c_ i j b Us Uw UA UH UJ UU UY U6 Vb UF U7=>S_ i j b Us Uw UA UH UJ UU UY U6 Vb UF U7 (λr0 r2=>c_ (.flt r0) [⟨79,1,.cells [.ptr 2 0]⟩,⟨3,1,.cells [vwi b]⟩,⟨85,1,.cells [.bool r2,.rof Uw,vwi UA,vwi UH,.rof UJ,.rof UU,.flt UY,.flt U6,.slw 3,.slw 4,.flt Vb]⟩,⟨33,1,.flts UF⟩,⟨33,1,.flts U7⟩])) N_ (bR N_)
def L73 (N_:Nat):LT:=ao (L72 N_) 62 ⟨[.int .i64,.fn 82 [.ptr 0 0,.ptr 1 0]],[some (79,1,.cells [.ptr 2 0]),some (3,1,.cells [.int .i64]),some (85,1,.cells [.bool,.rof,.int .i64,.int .i64,.rof,.rof,.flt,.flt,.slw 3,.slw 4,.flt]),some (33,1,.flts),some (33,1,.flts)]⟩ [.i,.i,.b,.fs,.i,.i,.fs,.fs,.f,.f,.f,.fs,.fs] (λS_ c_ n b Us Uw UA UH UJ UU UY U6 Vb UF U7=>S_ n b Us Uw UA UH UJ UU UY U6 Vb UF U7 (λr3 r14=>c_ (.agg [vwi n,vwi n,.slw 5]) [⟨79,1,.cells [.ptr 2 0]⟩,⟨3,1,.cells [vwi b]⟩,⟨85,1,.cells [.bool r3,.rof Uw,vwi UA,vwi UH,.rof UJ,.rof UU,.flt UY,.flt U6,.slw 3,.slw 4,.flt Vb]⟩,⟨33,1,.flts UF⟩,⟨33,1,.flts U7⟩,⟨33,1,.flts r14⟩])) N_ (da N_)
def L74 (N_:Nat):LT:=ad (L73 N_) 47 ⟨[.ptr 0 0],[some (85,1,.cells [.bool,.rof,.int .i64,.int .i64,.rof,.rof,.flt,.flt,.slw 1,.slw 2,.flt]),some (33,1,.flts),some (33,1,.flts)]⟩ [.b,.fs,.i,.i,.fs,.fs,.f,.f,.f,.fs,.fs] (λS_ c_ b Us Uw UA UH UJ UU UY U6 Vb UF=>S_ b Us Uw UA UH UJ UU UY U6 Vb UF (λr0 r1 r2 r13=>c_ (.agg [vwi r0,vwi r1,.slw 3]) [⟨85,1,.cells [.bool r2,.rof Us,vwi Uw,vwi UA,.rof UH,.rof UJ,.flt UU,.flt UY,.slw 1,.slw 2,.flt U6]⟩,⟨33,1,.flts Vb⟩,⟨33,1,.flts UF⟩,⟨33,1,.flts r13⟩])) N_ (cH N_)
def L75 (N_:Nat):LT:=upM Pg cW N_ fmd (L74 N_) [46,53,26,42,13,109,108,180,143,140,55,102,195,161,194,217,158,222,224,232,154,187,185,186,131,89,98,11,8,137,136,135,104]
def L76 (N_:Nat):LT:=ad (L75 N_) 119 ⟨[.int .u64,.agg [.int .u64,.int .i64,.int .i64]],[]⟩ [.i,.i,.i,.i] (λS_ c_ b Wj Wm WB=>S_ b Wj Wm WB (λr0=>c_ (.bool r0) [])) N_ (Jg N_)
def L77 (N_:Nat):LT:=ad (L76 N_) 120 ⟨[.agg [.int .u64,.int .i64,.int .i64]],[]⟩ [.i,.i,.i] (λS_ c_ Wj Wm WB=>S_ Wj Wm WB (λr0=>c_ (vwu r0) [])) N_ (uQ N_)
def L78 (N_:Nat):LT:=ad (L77 N_) 152 ⟨[.ptr 0 0,.int .u64],[some (204,1,.cells [.bool,.nil])]⟩ [.i,.b] (λS_ c_ n b=>S_ n b (λr0 r1=>c_ (.ptr 0 0) [⟨204,1,.cells [.bool r0,vwr r1]⟩])) N_ (OI N_)
def L79 (N_:Nat):LT:=ad (L78 N_) 153 ⟨[.ptr 0 0,.ptr 0 0],[some (204,1,.cells [.bool,.roi .u64])]⟩ [.b,.is] (λS_ c_ b Us=>S_ b Us (λr0 r1=>c_ (.ptr 0 0) [⟨204,1,.cells [.bool r0,vwr r1]⟩])) N_ (OX N_)
def L80 (N_:Nat):LT:=ad (L79 N_) 189 ⟨[.ptr 0 0,.int .i64],[some (204,1,.cells [.bool,.nil])]⟩ [.i,.b] (λS_ c_ n b=>S_ n b (λr0 r1=>c_ (.ptr 0 0) [⟨204,1,.cells [.bool r0,vwr r1]⟩])) N_ (O1 N_)
def L81 (N_:Nat):LT:=ad (L80 N_) 220 ⟨[.roi .u64,.int .i64],[]⟩ [.is,.i] (λS_ c_ x from_=>S_ x from_ (λr0=>c_ (vwu r0) [])) N_ (uO N_)
def L82 (N_:Nat):LT:=ad (L81 N_) 233 ⟨[.roi .u64,.roi .u64],[]⟩ [.is,.is] (λS_ c_ x y=>S_ x y (λr0=>c_ (vwr r0) [])) N_ (JA N_)
def L83 (N_:Nat):LT:=ad (L82 N_) 221 ⟨[.agg [.int .u64,.int .u64,.int .u64,.int .u64,.bool],.roi .u64,.roi .u64],[]⟩ [.i,.i,.i,.i,.b,.is,.is] (λS_ c_ U5 UE UG Zm w_4 x y=>S_ U5 UE UG Zm w_4 x y (λr0 r1=>c_ (.tup [vwr r0,vwr r1]) [])) N_ (dU N_)
def L84 (N_:Nat):LT:=ad (L83 N_) 235 ⟨[.int .u64,.int .u64,.int .u64],[]⟩ [.i,.i,.i] (λS_ c_ hi lo y=>S_ hi lo y (λr0 r1=>c_ (.tup [vwu r0,vwu r1]) [])) N_ (Jd N_)
def L85 (N_:Nat):LT:=ad (L84 N_) 223 ⟨[.roi .u64,.int .u64],[]⟩ [.is,.i] (λS_ c_ x d=>S_ x d (λr0 r1=>c_ (.tup [vwr r0,vwu r1]) [])) N_ (p9 N_)
def L86 (N_:Nat):LT:=ad (L85 N_) 236 ⟨[.sl 0,.roi .u64],[some (23,1,.ints .u64)]⟩ [.n,.n,.is,.is] (λS_ c_ VL Vc v b=>S_ VL Vc v b (λr0=>c_ (vwu r0) [⟨23,1,.ints .u64 b⟩])) N_ (sA N_)
def L87 (N_:Nat):LT:=ad (L86 N_) 225 ⟨[.sl 0,.roi .u64],[some (23,1,.ints .u64)]⟩ [.n,.n,.is,.is] (λS_ c_ VL Vc v b=>S_ VL Vc v b (λr0 r1=>c_ (vwu r0) [⟨23,1,.ints .u64 r1⟩])) N_ (tV N_)
def L88 (N_:Nat):LT:=ao (L87 N_) 236 ⟨[.sl 0,.sl 1],[some (23,1,.ints .u64),some (23,1,.ints .u64)]⟩ [.n,.n,.n,.n,.is,.is] (λS_ c_ VL Vc Z4 VI b Us=>S_ VL Vc Z4 VI b Us (λr0=>c_ (vwu r0) [⟨23,1,.ints .u64 b⟩,⟨23,1,.ints .u64 Us⟩])) N_ (F0 N_)
def L89 (N_:Nat):LT:=ao (L88 N_) 225 ⟨[.sl 0,.sl 1],[some (23,1,.ints .u64),some (23,1,.ints .u64)]⟩ [.n,.n,.n,.n,.is,.is] (λS_ c_ VL Vc Z4 VI b Us=>S_ VL Vc Z4 VI b Us (λr0 r1=>c_ (vwu r0) [⟨23,1,.ints .u64 r1⟩,⟨23,1,.ints .u64 Us⟩])) N_ (Jr N_)
def L90 (N_:Nat):LT:=ad (L89 N_) 226 ⟨[.sl 0,.int .u64],[some (23,1,.ints .u64)]⟩ [.n,.n,.i,.is] (λS_ c_ Vs UQ n b=>S_ Vs UQ n b (λr0 r1=>c_ (.tup [vwr r0,.bool r1]) [⟨23,1,.ints .u64 b⟩])) N_ (F1 N_)
def M91 (N_:Nat):LT:=ad (L90 N_) 188 ⟨[.roi .u64,.int .u64],[]⟩ [.is,.i] (λS_ c_ x n=>S_ x n (c_ (.nil) []) (λr0 r1=>c_ (.sl 0 0 r0) [⟨23,1,.ints .u64 r1⟩])) N_ (I3 N_)
def L91 (N_:Nat):LT:=ad (L90 N_) 210 ⟨[.roi .u64,.roi .u64],[]⟩ [.is,.is] (λS_ c_ x y=>S_ x y (λr0 r1=>c_ (.tup [vwr r0,vwr r1]) [])) N_ (JG N_)
def L92 (N_:Nat):LT:=ad (L91 N_) 208 ⟨[.roi .u64,.roi .u64],[]⟩ [.is,.is] (λS_ c_ x y=>S_ x y (λr0=>c_ (vwr r0) [])) N_ (O0 N_)
def L93 (N_:Nat):LT:=ad (L92 N_) 190 ⟨[.ptr 0 0,.bool,.roi .u64,.roi .u64],[some (210,1,.cells [.bool,.nil,.bool,.nil])]⟩ [.b,.is,.is,.b,.b] (λS_ c_ neg a b Us Uw=>S_ neg a b Us Uw (λr0 r1 r2 r3=>c_ (.ptr 0 0) [⟨210,1,.cells [.bool r0,vwr r1,.bool r2,vwr r3]⟩])) N_ (O6 N_)
def L94 (N_:Nat):LT:=ad (L93 N_) 191 ⟨[.ptr 0 0,.bool,.roi .u64,.slw 1],[some (210,1,.cells [.bool,.nil,.bool,.nil]),some (23,1,.ints .u64)]⟩ [.b,.is,.b,.b,.is] (λS_ c_ neg a b Us Uw=>S_ neg a b Us Uw (λr0 r2=>c_ (.ptr 0 0) [⟨210,1,.cells [.bool r0,vwr a,.bool r2,.slw 1]⟩,⟨23,1,.ints .u64 Uw⟩])) N_ (Pd N_)
def L95 (N_:Nat):LT:=ao (L94 N_) 191 ⟨[.ptr 0 0,.bool,.roi .u64,.roi .u64],[some (210,1,.cells [.bool,.nil,.bool,.nil])]⟩ [.b,.is,.is,.b,.b] (λS_ c_ neg a b Us Uw=>S_ neg a b Us Uw (λr0 r2=>c_ (.ptr 0 0) [⟨210,1,.cells [.bool r0,vwr a,.bool r2,vwr b]⟩])) N_ (ON N_)
def L96 (N_:Nat):LT:=ad (L95 N_) 213 ⟨[.ptr 0 0,.rp [.bool,.roi .u64,.bool,.roi .u64] 0],[some (210,1,.cells [.bool,.nil,.bool,.nil])]⟩ [.b,.is,.b,.is,.b,.b] (λS_ c_ Vs UQ Vg Vt b Us=>S_ Vs UQ Vg Vt b Us (λr0 r1 r2 r3=>c_ (.ptr 0 0) [⟨210,1,.cells [.bool r0,vwr r1,.bool r2,vwr r3]⟩])) N_ (Pi N_)
def L97 (N_:Nat):LT:=ad (L96 N_) 229 ⟨[.roi .u64,.roi .u64],[]⟩ [.is,.is] (λS_ c_ x y=>S_ x y (λr0=>c_ (vwr r0) [])) N_ (I4 N_)
def L98 (N_:Nat):LT:=ad (L97 N_) 238 ⟨[.roi .u64,.roi .u64],[]⟩ [.is,.is] (λS_ c_ x y=>S_ x y (λr0=>c_ (vwr r0) [])) N_ (uN N_)
def L99 (N_:Nat):LT:=ad (L98 N_) 230 ⟨[.ptr 0 0,.ptr 0 0,.bool,.roi .u64],[some (204,1,.cells [.bool,.roi .u64])]⟩ [.b,.is,.b,.is] (λS_ c_ neg y b Us=>S_ neg y b Us (λr0 r1=>c_ (.ptr 0 0) [⟨204,1,.cells [.bool r0,vwr r1]⟩])) N_ (OV N_)
def Pm (N_:Nat):LT:=ad (L99 N_) 212 ⟨[.ptr 0 0,.rp [.bool,.roi .u64,.bool,.roi .u64] 0,.ptr 1 0],[some (210,1,.cells [.bool,.nil,.bool,.nil]),some (210,1,.cells [.bool,.roi .u64,.bool,.roi .u64])]⟩ [.b,.is,.b,.is,.b,.b,.b,.is,.b,.is] (λS_ c_ Vs UQ Vg Vt b Us Uw UA UH UJ=>S_ Vs UQ Vg Vt b Us Uw UA UH UJ (λr0 r1 r2 r3=>c_ (.ptr 0 0) [⟨210,1,.cells [.bool r0,vwr r1,.bool r2,vwr r3]⟩,⟨210,1,.cells [.bool Uw,vwr UA,.bool UH,vwr UJ]⟩])) N_ (OQ N_)
def Pn (N_:Nat):LT:=ad (Pm N_) 193 ⟨[.ptr 0 0,.rp [.bool,.roi .u64,.bool,.roi .u64] 0,.rp [.bool,.roi .u64,.bool,.roi .u64] 0],[some (210,1,.cells [.bool,.nil,.bool,.nil])]⟩ [.b,.is,.b,.is,.b,.is,.b,.is,.b,.b] (λS_ c_ Vs UQ Vg Vt XC Vo V1 WC b Us=>S_ Vs UQ Vg Vt XC Vo V1 WC b Us (λr0 r1 r2 r3=>c_ (.ptr 0 0) [⟨210,1,.cells [.bool r0,vwr r1,.bool r2,vwr r3]⟩])) N_ (Ja N_)
def Po (N_:Nat):LT:=ad (Pn N_) 216 ⟨[.ptr 0 0,.bool,.roi .u64,.roi .u64,.roi .u64,.roi .u64],[some (210,1,.cells [.bool,.nil,.bool,.nil])]⟩ [.b,.is,.is,.is,.is,.b,.b] (λS_ c_ neg a b c d Us Uw=>S_ neg a b c d Us Uw (λr0 r1 r2 r3=>c_ (.ptr 0 0) [⟨210,1,.cells [.bool r0,vwr r1,.bool r2,vwr r3]⟩])) N_ (OK N_)
def Pp (N_:Nat):LT:=ad (Po N_) 199 ⟨[.ptr 0 0,.rp [.bool,.roi .u64,.bool,.roi .u64] 0,.rp [.bool,.roi .u64,.bool,.roi .u64] 0],[some (210,1,.cells [.bool,.nil,.bool,.nil])]⟩ [.b,.is,.b,.is,.b,.is,.b,.is,.b,.b] (λS_ c_ Vs UQ Vg Vt XC Vo V1 WC b Us=>S_ Vs UQ Vg Vt XC Vo V1 WC b Us (λr0 r1 r2 r3=>c_ (.ptr 0 0) [⟨210,1,.cells [.bool r0,vwr r1,.bool r2,vwr r3]⟩])) N_ (I_ N_)
def Pq (N_:Nat):LT:=ad (Pp N_) 215 ⟨[.ptr 0 0,.rp [.bool,.roi .u64,.bool,.roi .u64] 0,.rp [.bool,.roi .u64,.bool,.roi .u64] 0],[some (210,1,.cells [.bool,.nil,.bool,.nil])]⟩ [.b,.is,.b,.is,.b,.is,.b,.is,.b,.b] (λS_ c_ Vs UQ Vg Vt XC Vo V1 WC b Us=>S_ Vs UQ Vg Vt XC Vo V1 WC b Us (λr0 r1 r2 r3=>c_ (.ptr 0 0) [⟨210,1,.cells [.bool r0,vwr r1,.bool r2,vwr r3]⟩])) N_ (I9 N_)
def Ps (N_:Nat):LT:=ao (Pq N_) 212 ⟨[.ptr 0 0,.rp [.bool,.roi .u64,.bool,.roi .u64] 0,.rp [.bool,.roi .u64,.bool,.roi .u64] 0],[some (210,1,.cells [.bool,.nil,.bool,.nil])]⟩ [.b,.is,.b,.is,.b,.is,.b,.is,.b,.b] (λS_ c_ Vs UQ Vg Vt XC Vo V1 WC b Us=>S_ Vs UQ Vg Vt XC Vo V1 WC b Us (λr0 r1 r2 r3=>c_ (.ptr 0 0) [⟨210,1,.cells [.bool r0,vwr r1,.bool r2,vwr r3]⟩])) N_ (Mg N_)
def Pt (N_:Nat):LT:=ad (Ps N_) 94 ⟨[.flt],[]⟩ [.f] (λS_ c_ x=>S_ x (λr0 r1 r2=>c_ (.tup [.bool r0,vwi r1,vwu r2]) [])) N_ (qg N_)
def Pu (N_:Nat):LT:=ad (Pt N_) 85 ⟨[.flt,.flt],[]⟩ [.f,.f] (λS_ c_ a b=>S_ a b (λr0=>c_ (.bool r0) [])) N_ (sV N_)
def Pv (N_:Nat):LT:=ad (Pu N_) 170 ⟨[.flt],[]⟩ [.f] (λS_ c_ x=>S_ x (λr0 r1 r2 r3=>c_ (.tup [.agg [.bool r0,vwu r1,vwi r2],vwi r3]) [])) N_ (qf N_)
def Pw (N_:Nat):LT:=ad (Pv N_) 171 ⟨[.ptr 0 0,.int .u64],[some (151,1,.cells [.bool,.nil])]⟩ [.i,.b] (λS_ c_ n b=>S_ n b (λr0 r1=>c_ (.ptr 0 0) [⟨151,1,.cells [.bool r0,vws r1]⟩])) N_ (O5 N_)
def Px (N_:Nat):LT:=ad (Pw N_) 172 ⟨[.ptr 0 0,.ptr 0 0],[some (151,1,.cells [.bool,.roi .u32])]⟩ [.b,.is] (λS_ c_ b Us=>S_ b Us (λr0 r1=>c_ (.ptr 0 0) [⟨151,1,.cells [.bool r0,vws r1]⟩])) N_ (Jw N_)
def Py (N_:Nat):LT:=ad (Px N_) 139 ⟨[.flt],[]⟩ [.f] (λS_ c_ x=>S_ x (λr0 r1 r2=>c_ (.agg [.ptr 0 0,vwi r0]) [⟨151,1,.cells [.bool r1,vws r2]⟩])) N_ (xm N_)
def JL (N_:Nat):LT:=ad (Py N_) 168 ⟨[.ptr 0 0,.ptr 1 0,.int .u64],[some (151,1,.cells [.bool,.nil]),some (151,1,.cells [.bool,.roi .u32])]⟩ [.i,.b,.b,.is] (λS_ c_ n b Us Uw=>S_ n b Us Uw (λr0 r1=>c_ (.ptr 0 0) [⟨151,1,.cells [.bool r0,vws r1]⟩,⟨151,1,.cells [.bool Us,vws Uw]⟩])) N_ (Jf N_)
def SQ (N_:Nat):LT:=ad (JL N_) 181 ⟨[.roi .u32,.int .u64],[]⟩ [.is,.i] (λS_ c_ m n=>S_ m n (c_ (.nil) []) (λr0 r1=>c_ (.sl 0 0 r0) [⟨195,1,.ints .u32 r1⟩])) N_ (I5 N_)
def Pz (N_:Nat):LT:=ad (JL N_) 149 ⟨[.roi .u32,.roi .u32],[]⟩ [.is,.is] (λS_ c_ a b=>S_ a b (λr0 r1=>c_ (.tup [vws r0,vws r1]) [])) N_ (B2 N_)
def PA (N_:Nat):LT:=ad (Pz N_) 147 ⟨[.roi .u32,.roi .u32],[]⟩ [.is,.is] (λS_ c_ a b=>S_ a b (λr0=>c_ (vws r0) [])) N_ (Jy N_)
def PB (N_:Nat):LT:=ad (PA N_) 127 ⟨[.ptr 0 0,.bool,.roi .u32,.roi .u32],[some (153,1,.cells [.bool,.nil,.bool,.nil])]⟩ [.b,.is,.is,.b,.b] (λS_ c_ neg a b Us Uw=>S_ neg a b Us Uw (λr0 r1 r2 r3=>c_ (.ptr 0 0) [⟨153,1,.cells [.bool r0,vws r1,.bool r2,vws r3]⟩])) N_ (OJ N_)
def PC (N_:Nat):LT:=ad (PB N_) 200 ⟨[.ptr 0 0,.int .i64],[some (151,1,.cells [.bool,.nil])]⟩ [.i,.b] (λS_ c_ n b=>S_ n b (λr0 r1=>c_ (.ptr 0 0) [⟨151,1,.cells [.bool r0,vws r1]⟩])) N_ (Jj N_)
def PD (N_:Nat):LT:=ad1 2 (PC N_) 129 ⟨[.rp [.bool,.roi .u32,.bool,.roi .u32] 0],[]⟩ [.b,.is,.b,.is] (λS_ c_ r_0 Za XG XU=>S_ r_0 Za XG XU (λr0=>c_ (vws r0) (.any))) N_ (Ji N_)
def PE (N_:Nat):LT:=ad (PD N_) 123 ⟨[.ptr 0 0,.rp [.bool,.roi .u32,.bool,.roi .u32] 0],[some (153,1,.cells [.bool,.roi .u32,.bool,.roi .u32])]⟩ [.b,.is,.b,.is,.b,.is,.b,.is] (λS_ c_ Vs UQ Vg Vt b Us Uw UA=>S_ Vs UQ Vg Vt b Us Uw UA (λr0 r1 r2 r3=>c_ (.ptr 0 0) [⟨153,1,.cells [.bool r0,vws r1,.bool r2,vws r3]⟩])) N_ (IX N_)
def PF (N_:Nat):LT:=ad (PE N_) 107 ⟨[.agg [.int .i64,.int .i64,.rl RT3]],[]⟩ [.i,.i,.r RT3] (λS_ c_ U_ Uy UV=>S_ U_ Uy UV (λr2=>c_ (.agg [vwi U_,vwi Uy,.slw 0]) [⟨146,1,.own 153 RT2 r2 []⟩])) N_ (IW N_)
def PG (N_:Nat):LT:=ao1 2 (PF N_) 129 ⟨[.ptr 0 0],[some (153,1,.cells [.bool,.roi .u32,.bool,.roi .u32])]⟩ [.b,.is,.b,.is] (λS_ c_ b Us Uw UA=>S_ b Us Uw UA (λr0=>c_ (vws r0) (.any))) N_ (OB N_)
def PH (N_:Nat):LT:=ad (PG N_) 111 ⟨[.ptr 0 0,.ptr 1 0,.ptr 2 0],[some (153,1,.cells [.bool,.nil,.bool,.nil]),some (153,1,.cells [.bool,.roi .u32,.bool,.roi .u32]),some (153,1,.cells [.bool,.roi .u32,.bool,.roi .u32])]⟩ [.b,.b,.b,.is,.b,.is,.b,.is,.b,.is] (λS_ c_ b Us Uw UA UH UJ UU UY U6 Vb=>S_ b Us Uw UA UH UJ UU UY U6 Vb (λr0 r1 r2 r3=>c_ (.ptr 0 0) [⟨153,1,.cells [.bool r0,vws r1,.bool r2,vws r3]⟩,⟨153,1,.cells [.bool Uw,vws UA,.bool UH,vws UJ]⟩,⟨153,1,.cells [.bool UU,vws UY,.bool U6,vws Vb]⟩])) N_ (OG N_)
def PI (N_:Nat):LT:=ad (PH N_) 126 ⟨[.ptr 0 0,.ptr 1 0,.ptr 2 0],[some (153,1,.cells [.bool,.nil,.bool,.nil]),some (153,1,.cells [.bool,.roi .u32,.bool,.roi .u32]),some (153,1,.cells [.bool,.roi .u32,.bool,.roi .u32])]⟩ [.b,.b,.b,.is,.b,.is,.b,.is,.b,.is] (λS_ c_ b Us Uw UA UH UJ UU UY U6 Vb=>S_ b Us Uw UA UH UJ UU UY U6 Vb (λr0 r1 r2 r3=>c_ (.ptr 0 0) [⟨153,1,.cells [.bool r0,vws r1,.bool r2,vws r3]⟩,⟨153,1,.cells [.bool Uw,vws UA,.bool UH,vws UJ]⟩,⟨153,1,.cells [.bool UU,vws UY,.bool U6,vws Vb]⟩])) N_ (OE N_)
def PJ (N_:Nat):LT:=ad (PI N_) 141 ⟨[.ptr 0 0,.ptr 1 0],[some (153,1,.cells [.bool,.roi .u32,.bool,.roi .u32]),some (153,1,.cells [.bool,.roi .u32,.bool,.roi .u32])]⟩ [.b,.is,.b,.is,.b,.is,.b,.is] (λS_ c_ b Us Uw UA UH UJ UU UY=>S_ b Us Uw UA UH UJ UU UY (λr9 r11=>c_ (.tup [.ptr 2 0,.ptr 3 0]) [⟨153,1,.cells [.bool b,vws Us,.bool Uw,vws UA]⟩,⟨153,1,.cells [.bool UH,vws UJ,.bool UU,vws UY]⟩,⟨151,1,.cells [.bool b,vws r9]⟩,⟨151,1,.cells [.bool UH,vws r11]⟩])) N_ (Pe N_)
def PK (N_:Nat):LT:=ad (PJ N_) 173 ⟨[.ptr 0 0,.ptr 1 0,.ptr 2 0,.bool],[some (151,1,.cells [.bool,.nil]),some (151,1,.cells [.bool,.roi .u32]),some (151,1,.cells [.bool,.roi .u32])]⟩ [.b,.b,.b,.is,.b,.is] (λS_ c_ turn b Us Uw UA UH=>S_ turn b Us Uw UA UH (λr0 r1=>c_ (.ptr 0 0) [⟨151,1,.cells [.bool r0,vws r1]⟩,⟨151,1,.cells [.bool Us,vws Uw]⟩,⟨151,1,.cells [.bool UA,vws UH]⟩])) N_ (IZ N_)
def PL (N_:Nat):LT:=ao (PK N_) 127 ⟨[.ptr 0 0,.bool,.roi .u32,.roi .u32],[some (153,1,.cells [.bool,.roi .u32,.bool,.roi .u32])]⟩ [.b,.is,.is,.b,.is,.b,.is] (λS_ c_ neg a b Us Uw UA UH=>S_ neg a b Us Uw UA UH (λr0 r1 r2 r3=>c_ (.ptr 0 0) [⟨153,1,.cells [.bool r0,vws r1,.bool r2,vws r3]⟩])) N_ (O8 N_)
def PM (N_:Nat):LT:=ad (PL N_) 86 ⟨[.agg [.int .i64,.int .i64,.rof],.int .i64],[]⟩ [.i,.i,.fs,.i] (λS_ c_ U_ Uy UV j=>S_ U_ Uy UV j (λr0=>c_ (.slw 0) [⟨33,1,.flts r0⟩])) N_ (oy N_)
def PN (N_:Nat):LT:=ad (PM N_) 87 ⟨[.agg [.int .i64,.int .i64,.rof]],[]⟩ [.i,.i,.fs] (λS_ c_ U_ Uy UV=>S_ U_ Uy UV (λr2=>c_ (.agg [vwi U_,vwi Uy,.slw 0]) [⟨33,1,.flts r2⟩])) N_ (oz N_)
def PO (N_:Nat):LT:=ad (PN N_) 45 ⟨[.rof,.rof],[]⟩ [.fs,.fs] (λS_ c_ a b=>S_ a b (λr0=>c_ (.bool r0) [])) N_ (OH N_)
def PP (N_:Nat):LT:=ad (PO N_) 16 ⟨[.agg [.rof,.int .i64,.int .i64,.rof],.agg [.rof,.int .i64,.int .i64,.rof]],[]⟩ [.fs,.i,.i,.fs,.fs,.i,.i,.fs] (λS_ c_ WK U4 Wd WL XT Us Uw UA=>S_ WK U4 Wd WL XT Us Uw UA (λr0=>c_ (.bool r0) [])) N_ (GQ0 N_)
def PQ (N_:Nat):LT:=ad (PP N_) 17 ⟨[.agg [.flt,.flt,.flt,.rof],.agg [.flt,.flt,.flt,.rof]],[]⟩ [.f,.f,.f,.fs,.f,.f,.f,.fs] (λS_ c_ WK U4 Wd WL XT Us Uw UA=>S_ WK U4 Wd WL XT Us Uw UA (λr0=>c_ (.bool r0) [])) N_ (GQ1 N_)
def PR (N_:Nat):LT:=upM Pg cW N_ fmd (PQ N_) [142,167,169,165,166,29,69,196,197,164,160,157,156,155,103]
def PS (N_:Nat):LT:=ad (PR N_) 130 ⟨[.int .u64,.agg [.int .u64,.int .i64,.int .i64]],[]⟩ [.i,.i,.i,.i] (λS_ c_ b Wj Wm WB=>S_ b Wj Wm WB (λr0 r1 r2=>c_ (.tup [.bool r0,vwi r1,vwu r2]) [])) N_ (O3 N_)
def JM (N_:Nat):LT:=ad (PS N_) 114 ⟨[.int .u64,.agg [.int .u64,.int .i64,.int .i64]],[]⟩ [.i,.i,.i,.i] (λS_ c_ b Wj Wm WB=>S_ b Wj Wm WB (λr0=>c_ (vwi r0) [])) N_ (O2 N_)
def Ro:FnSh:=⟨[.flt],[]⟩
def LP (aby:JR):SPT:=λa_ c_=>match a_ with
 | [.fl x]=>aby x (λr0=>c_ (vwi r0) [])
 | _=>false
abbrev Rw (aby:JR):Fs:=jl Ro (LP aby)
def PT (N_:Nat):LT:=(99,(Rw (Ly N_)))::JM N_
def LB:FnSh:=⟨[.fb],[]⟩
def LJ (abv:NP):SPT:=λa_ c_=>match a_ with
 | [.nat x]=>abv x (λr0=>c_ (vwi r0) [])
 | _=>false
abbrev Ox (abv:NP):Fs:=jl LB (LJ abv)
def PU (N_:Nat):LT:=ad (PT N_) 72 ⟨[.rof],[]⟩ [.fs] (λS_ c_ l=>S_ l (λr0=>c_ (.bool r0) [])) N_ (I0 N_)
def JN (N_:Nat):LT:=ad (PU N_) 71 ⟨[.agg [.int .i64,.int .i64,.rof]],[]⟩ [.i,.i,.fs] (λS_ c_ U_ Uy UV=>S_ U_ Uy UV (λr0=>c_ (vwi r0) [])) N_ (O4 N_)
def Nu:FnSh:=⟨[.flt,.flt],[]⟩
def FR (Z7:Eb):SPT:=λa_ c_=>match a_ with
 | [.fl a,.fl b]=>Z7 a b (λr0=>c_ (.bool r0) [])
 | _=>false
abbrev Ny (Z7:Eb):Fs:=jl Nu (FR Z7)
def PV (N_:Nat):LT:=(88,(Ny (Dx N_)))::JN N_
def LC:FnSh:=⟨[.fb,.fb],[]⟩
def LM (abw:NQ):SPT:=λa_ c_=>match a_ with
 | [.nat a,.nat b]=>abw a b (λr0=>c_ (.bool r0) [])
 | _=>false
abbrev Oy (abw:NQ):Fs:=jl LC (LM abw)
def PW (N_:Nat):LT:=ad (PV N_) 58 ⟨[.agg [.int .i64,.int .i64,.rof]],[]⟩ [.i,.i,.fs] (λS_ c_ U_ Uy UV=>S_ U_ Uy UV (λr0=>c_ (.bool r0) [])) N_ (Pj N_)
def PX (N_:Nat):LT:=ad (PW N_) 184 ⟨[.int .u64,.agg [.int .u64,.int .i64,.int .i64]],[]⟩ [.i,.i,.i,.i] (λS_ c_ b Wj Wm WB=>S_ b Wj Wm WB (λr0 r1 r2 r3=>c_ (.tup [.agg [.bool r0,vwu r1,vwi r2],vwi r3]) [])) N_ (Ph N_)
def PY (N_:Nat):LT:=ad (PX N_) 133 ⟨[.agg [.int .i64,.int .i64,.slw 0]],[some (179,1,.recs RT1)]⟩ [.i,.i,.r RT1] (λS_ c_ X8 Wf b=>S_ X8 Wf b (c_ (.tup []) [⟨179,1,.recs RT1 b⟩])) N_ (cI N_)
def PZ (N_:Nat):LT:=ad (PY N_) 198 ⟨[.int .i64,.int .i64],[]⟩ [.i,.i] (λS_ c_ a b=>S_ a b (λr0 r1 r2 r3=>c_ (.ptr 0 0) [⟨210,1,.cells [.bool r0,vwr r1,.bool r2,vwr r3]⟩])) N_ (oq N_)
def P0 (N_:Nat):LT:=ad (PZ N_) 162 ⟨[.agg [.int .i64,.int .i64,.slw 0],.int .i64,.int .i64,.agg [.rp [.bool,.roi .u64,.bool,.roi .u64] 0]],[some (179,1,.recs RT1)]⟩ [.i,.i,.i,.i,.b,.is,.b,.is,.r RT1] (λS_ c_ X8 Wf i k_ Vs UQ Vg Vt b=>S_ X8 Wf i k_ Vs UQ Vg Vt b (λr0=>c_ (.tup []) [⟨179,1,.recs RT1 r0⟩])) N_ (eP N_)
def P1 (N_:Nat):LT:=ad (P0 N_) 76 ⟨[.int .i64,.rof,.flt],[]⟩ [.i,.fs,.f] (λS_ c_ n h r=>S_ n h r (λr0=>c_ (vwi r0) [])) N_ (nz N_)
def P2 (N_:Nat):LT:=ad (P1 N_) 78 ⟨[.rof],[]⟩ [.fs] (λS_ c_ l=>S_ l (λr0=>c_ (.bool r0) [])) N_ (I6 N_)
def P3 (N_:Nat):LT:=ad (P2 N_) 84 ⟨[.agg [.int .i64,.int .i64,.rof]],[]⟩ [.i,.i,.fs] (λS_ c_ U_ Uy UV=>S_ U_ Uy UV (λr0=>c_ (vwi r0) [])) N_ (sW N_)
def P4 (N_:Nat):LT:=ad (P3 N_) 49 ⟨[.agg [.int .i64,.int .i64,.rof]],[]⟩ [.i,.i,.fs] (λS_ c_ U_ Uy UV=>S_ U_ Uy UV (λr0=>c_ (vwi r0) [])) N_ (Jl N_)
def P5 (N_:Nat):LT:=ad (P4 N_) 138 ⟨[.agg [.ptr 0 0,.int .i64]],[some (151,1,.cells [.bool,.roi .u32])]⟩ [.i,.b,.is] (λS_ c_ x b Us=>S_ x b Us (λr2 r3 r4 r5=>c_ (.ptr 1 0) [⟨151,1,.cells [.bool b,vws Us]⟩,⟨153,1,.cells [.bool r2,vws r3,.bool r4,vws r5]⟩])) N_ (Pf N_)
def P6 (N_:Nat):LT:=ad (P5 N_) 125 ⟨[.ptr 0 0,.ptr 0 0,.ptr 1 0],[some (153,1,.cells [.bool,.roi .u32,.bool,.roi .u32]),some (153,1,.cells [.bool,.roi .u32,.bool,.roi .u32])]⟩ [.b,.is,.b,.is,.b,.is,.b,.is] (λS_ c_ b Us Uw UA UH UJ UU UY=>S_ b Us Uw UA UH UJ UU UY (λr0 r1 r2 r3=>c_ (.ptr 0 0) [⟨153,1,.cells [.bool r0,vws r1,.bool r2,vws r3]⟩,⟨153,1,.cells [.bool UH,vws UJ,.bool UU,vws UY]⟩])) N_ (OL N_)
def P7 (N_:Nat):LT:=ad (P6 N_) 110 ⟨[.agg [.int .i64,.int .i64,.slw 0],.int .i64,.int .i64,.ptr 1 0],[some (146,1,.own 153 RT2),some (153,1,.cells [.bool,.roi .u32,.bool,.roi .u32])]⟩ [.i,.i,.i,.i,.r RT2,.b,.is,.b,.is] (λS_ c_ U_ Uy i k_ b Us Uw UA UH=>S_ U_ Uy i k_ b Us Uw UA UH (λr0=>c_ (.tup []) [⟨146,1,.own 153 RT2 r0 []⟩,⟨153,1,.cells [.bool Us,vws Uw,.bool UA,vws UH]⟩])) N_ (OU N_)
def P8 (N_:Nat):LT:=ad (P7 N_) 93 ⟨[.agg [.int .i64,.int .i64,.rl RT3]],[]⟩ [.i,.i,.r RT3] (λS_ c_ U_ Uy UV=>S_ U_ Uy UV (λr0=>c_ (vwi r0) [])) N_ (Jp N_)
def P9 (N_:Nat):LT:=ad (P8 N_) 38 ⟨[.int .i64,.rof,.flt],[]⟩ [.i,.fs,.f] (λS_ c_ n h r=>S_ n h r (λr0=>c_ (vwi r0) [])) N_ (uU N_)
def P_ (N_:Nat):LT:=ad (P9 N_) 54 ⟨[.ptr 0 0,.flt],[some (89,1,.cells [.bool])]⟩ [.f,.b] (λS_ c_ x b=>S_ x b (λr1=>c_ (.flt x) [⟨89,1,.cells [.bool r1]⟩])) N_ (OP N_)
def Qa (N_:Nat):LT:=ad (P_ N_) 50 ⟨[.ptr 0 0,.rof,.rof],[some (89,1,.cells [.bool])]⟩ [.fs,.fs,.b] (λS_ c_ a b Us=>S_ a b Us (λr0 r1=>c_ (.flt r0) [⟨89,1,.cells [.bool r1]⟩])) N_ (qo N_)
def Qb (N_:Nat):LT:=ao (Qa N_) 50 ⟨[.ptr 0 0,.rof,.slw 1],[some (89,1,.cells [.bool]),some (33,1,.flts)]⟩ [.fs,.b,.fs] (λS_ c_ a b Us=>S_ a b Us (λr0 r1=>c_ (.flt r0) [⟨89,1,.cells [.bool r1]⟩,⟨33,1,.flts Us⟩])) N_ (Jx N_)
def Qc (N_:Nat):LT:=ad (Qb N_) 39 ⟨[.agg [.rof,.int .i64,.int .i64,.rof],.rof,.flt,.ptr 0 0],[some (89,1,.cells [.bool])]⟩ [.fs,.i,.i,.fs,.fs,.f,.b] (λS_ c_ WS VG Wk Wl h r b=>S_ WS VG Wk Wl h r b (λr0 r1 r2 r3=>c_ (.tup [.flt r0,.slw 1,.flt r1]) [⟨89,1,.cells [.bool r2]⟩,⟨33,1,.flts r3⟩])) N_ (I8 N_)
def Qd (N_:Nat):LT:=ad (Qc N_) 52 ⟨[.agg [.int .i64,.int .i64,.rof],.agg [.int .i64,.int .i64,.rof],.ptr 0 0],[some (89,1,.cells [.bool])]⟩ [.i,.i,.fs,.i,.i,.fs,.b] (λS_ c_ WK U4 Wd XT Us Uw b=>S_ WK U4 Wd XT Us Uw b (λr2 r3=>c_ (.agg [vwi WK,vwi Us,.slw 1]) [⟨89,1,.cells [.bool r2]⟩,⟨33,1,.flts r3⟩])) N_ (Jv N_)
def Qe (N_:Nat):LT:=ao (Qd N_) 50 ⟨[.ptr 0 0,.sl 1,.sl 2],[some (89,1,.cells [.bool]),some (33,1,.flts),some (33,1,.flts)]⟩ [.n,.n,.n,.n,.b,.fs,.fs] (λS_ c_ WK U4 XT Us b Uw UA=>S_ WK U4 XT Us b Uw UA (λr0 r1=>c_ (.flt r0) [⟨89,1,.cells [.bool r1]⟩,⟨33,1,.flts Uw⟩,⟨33,1,.flts UA⟩])) N_ (Jo N_)
def Qf (N_:Nat):LT:=ad (Qe N_) 81 ⟨[.agg [.int .i64,.int .i64,.rof],.rof,.flt,.rof,.ptr 0 0],[some (89,1,.cells [.bool])]⟩ [.i,.i,.fs,.fs,.f,.fs,.b] (λS_ c_ Y1 WN XF h r k_ b=>S_ Y1 WN XF h r k_ b (λr0 r1 r2 r3=>c_ (.agg [vwi r0,vwi r1,.slw 1]) [⟨89,1,.cells [.bool r2]⟩,⟨33,1,.flts r3⟩])) N_ (Jm N_)
def Qg (N_:Nat):LT:=upM Pg cW N_ fmd (Qf N_) [121,83,163,151]
def Qh (N_:Nat):LT:=ad (Qg N_) 132 ⟨[.flt],[]⟩ [.f] (λS_ c_ x=>S_ x (λr0 r1 r2 r3=>c_ (.agg [.rp [.bool r0,vwr r1,.bool r2,vwr r3] 0]) [])) N_ (jk N_)
def Qi (N_:Nat):LT:=ad (Qh N_) 117 ⟨[.agg [.int .i64,.int .i64,.rof]],[]⟩ [.i,.i,.fs] (λS_ c_ U_ Uy UV=>S_ U_ Uy UV (λr2=>c_ (.agg [vwi U_,vwi Uy,.slw 0]) [⟨179,1,.recs RT1 r2⟩])) N_ (iJ N_)
def Qj (N_:Nat):LT:=ad (Qi N_) 134 ⟨[.agg [.int .i64,.int .i64,.slw 0]],[some (179,1,.recs RT1)]⟩ [.i,.i,.r RT1] (λS_ c_ X8 Wf b=>S_ X8 Wf b (λr0 r1=>c_ (vwi r0) [⟨179,1,.recs RT1 r1⟩])) N_ (dc N_)
def Qk (N_:Nat):LT:=ad (Qj N_) 66 ⟨[.agg [.rof,.int .i64,.int .i64,.rof]],[]⟩ [.fs,.i,.i,.fs] (λS_ c_ Vf UR UX UZ=>S_ Vf UR UX UZ (λr0=>c_ (vwi r0) [])) N_ (qm N_)
def Ql (N_:Nat):LT:=ad (Qk N_) 106 ⟨[.agg [.int .i64,.int .i64,.rof]],[]⟩ [.i,.i,.fs] (λS_ c_ U_ Uy UV=>S_ U_ Uy UV (λr2=>c_ (.agg [vwi U_,vwi Uy,.slw 0]) [⟨146,1,.own 153 RT2 r2 []⟩])) N_ (qh N_)
def Qm (N_:Nat):LT:=upM Pg cW N_ fmd (Ql N_) [67,92,118]
def Qn (N_:Nat):LT:=ad (Qm N_) 100 ⟨[.agg [.int .i64,.int .i64,.rof]],[]⟩ [.i,.i,.fs] (λS_ c_ U_ Uy UV=>S_ U_ Uy UV (λr0 r1=>c_ (.tup [vwi r0,vwi r1]) [])) N_ (jj N_)
def Qo (N_:Nat):LT:=ad (Qn N_) 24 ⟨[.agg [.rof,.int .i64,.int .i64,.rof]],[]⟩ [.fs,.i,.i,.fs] (λS_ c_ Vf UR UX UZ=>S_ Vf UR UX UZ (λr0=>c_ (vwi r0) [])) N_ (qk N_)
def Qp (N_:Nat):LT:=ad (Qo N_) 12 ⟨[.agg [.rof,.int .i64,.int .i64,.rof],.rof,.flt],[]⟩ [.fs,.i,.i,.fs,.fs,.f] (λS_ c_ WS VG Wk Wl h r=>S_ WS VG Wk Wl h r (λr0 r1 r2=>c_ (.tup [.flt r0,.flt r1,vwi r2]) [])) N_ (Ju N_)
def Qq (N_:Nat):LT:=ad (Qp N_) 56 ⟨[.slw 0,.agg [.int .i64,.int .i64,.slw 1],.ptr 2 0],[some (33,1,.flts),some (33,1,.flts),some (89,1,.cells [.bool])]⟩ [.i,.i,.fs,.fs,.b] (λS_ c_ Y1 WN b Us Uw=>S_ Y1 WN b Us Uw (λr0 r1 r2=>c_ (.tup [.agg [.nil,vwi r0,vwi r1,.nil],vwi r2]) [⟨33,1,.flts b⟩,⟨33,1,.flts Us⟩,⟨89,1,.cells [.bool Uw]⟩]) (λr2 r6=>c_ (.tup [.agg [.slw 0,vwi Y1,vwi WN,.slw 3],vwi r2]) [⟨33,1,.flts b⟩,⟨33,1,.flts Us⟩,⟨89,1,.cells [.bool Uw]⟩,⟨33,1,.flts r6⟩])) N_ (OZ N_)
def Qr (N_:Nat):LT:=ad (Qq N_) 44 ⟨[.agg [.rof,.int .i64,.int .i64,.rof],.rof,.flt,.flt,.bool],[]⟩ [.fs,.i,.i,.fs,.fs,.f,.f,.b] (λS_ c_ WS VG Wk Wl h r z short=>S_ WS VG Wk Wl h r z short (λr0 r1 r2 r3 r4 r5=>c_ (.tup [.agg [.nil,vwi r0,vwi r1,.nil],.agg [.flt r2,.flt r3,.flt r4,.nil],vwi r5]) []) (λr0 r1 r2 r3 r4 r5 r6=>c_ (.tup [.agg [.nil,vwi r0,vwi r1,.nil],.agg [.flt r2,.flt r3,.flt r4,.slw 0],vwi r5]) [⟨33,1,.flts r6⟩]) (λr0 r1 r2 r3 r4 r5 r6 r7 r8=>c_ (.tup [.agg [.slw 0,vwi r0,vwi r1,.slw 1],.agg [.flt r2,.flt r3,.flt r4,.slw 2],vwi r5]) [⟨33,1,.flts r6⟩,⟨33,1,.flts r7⟩,⟨33,1,.flts r8⟩])) N_ (JF N_)
def Qs (N_:Nat):LT:=ad (Qr N_) 15 ⟨[.agg [.rof,.int .i64,.int .i64,.rof],.rof,.flt,.flt],[]⟩ [.fs,.i,.i,.fs,.fs,.f,.f] (λS_ c_ WS VG Wk Wl h r z=>S_ WS VG Wk Wl h r z (λr0 r1 r2 r3 r4 r5=>c_ (.tup [.agg [.nil,vwi r0,vwi r1,.nil],.agg [.flt r2,.flt r3,.flt r4,.nil],vwi r5]) []) (λr0 r1 r2 r3 r4 r5 r6=>c_ (.tup [.agg [.nil,vwi r0,vwi r1,.nil],.agg [.flt r2,.flt r3,.flt r4,.slw 0],vwi r5]) [⟨33,1,.flts r6⟩]) (λr0 r1 r2 r3 r4 r5 r6 r7 r8=>c_ (.tup [.agg [.slw 0,vwi r0,vwi r1,.slw 1],.agg [.flt r2,.flt r3,.flt r4,.slw 2],vwi r5]) [⟨33,1,.flts r6⟩,⟨33,1,.flts r7⟩,⟨33,1,.flts r8⟩])) N_ (Jc N_)
def Qt (N_:Nat):LT:=ad (Qs N_) 19 ⟨[.agg [.rof,.int .i64,.int .i64,.rof],.rof,.flt,.flt],[]⟩ [.fs,.i,.i,.fs,.fs,.f,.f] (λS_ c_ WS VG Wk Wl h r z=>S_ WS VG Wk Wl h r z (λr0 r1 r2 r3 r4 r5=>c_ (.tup [.agg [.nil,vwi r0,vwi r1,.nil],.agg [.flt r2,.flt r3,.flt r4,.nil],vwi r5]) []) (λr0 r1 r2 r3 r4 r5 r6=>c_ (.tup [.agg [.nil,vwi r0,vwi r1,.nil],.agg [.flt r2,.flt r3,.flt r4,.slw 0],vwi r5]) [⟨33,1,.flts r6⟩]) (λr0 r1 r2 r3 r4 r5 r6 r7 r8=>c_ (.tup [.agg [.slw 0,vwi r0,vwi r1,.slw 1],.agg [.flt r2,.flt r3,.flt r4,.slw 2],vwi r5]) [⟨33,1,.flts r6⟩,⟨33,1,.flts r7⟩,⟨33,1,.flts r8⟩])) N_ (OD N_)
def Qu (N_:Nat):LT:=upM Pg cW N_ fmd (Qt N_) [73]
def Qv (N_:Nat):LT:=ad (Qu N_) 32 ⟨[.agg [.rof,.int .i64,.int .i64,.rof]],[]⟩ [.fs,.i,.i,.fs] (λS_ c_ Vf UR UX UZ=>S_ Vf UR UX UZ (λr0=>c_ (vwi r0) [])) N_ (mm N_)
def Qw (N_:Nat):LT:=ad (Qv N_) 37 ⟨[.agg [.rof,.int .i64,.int .i64,.rof],.rof,.flt],[]⟩ [.fs,.i,.i,.fs,.fs,.f] (λS_ c_ Vf UR UX UZ h r=>S_ Vf UR UX UZ h r (λr0=>c_ (.tup [.val (.pointer none),vwi r0]) []) (λr0 r1 r8 r9 r10=>c_ (.tup [.ptr 0 0,vwi r0]) [⟨85,1,.cells [.bool r1,.rof Vf,vwi UR,vwi UX,.rof UZ,.rof h,.flt r,.flt r8,.slw 1,.nil,.flt r9]⟩,⟨33,1,.flts r10⟩])) N_ (kp N_)
def Qx (N_:Nat):LT:=ad (Qw N_) 10 ⟨[.agg [.rof,.int .i64,.int .i64,.rof],.rof,.flt],[]⟩ [.fs,.i,.i,.fs,.fs,.f] (λS_ c_ Vf UR UX UZ h r=>S_ Vf UR UX UZ h r (λr0 r1 r2=>c_ (.tup [.flt r0,.flt r1,vwi r2]) [])) N_ (ko N_)
def Qy (N_:Nat):LT:=ad (Qx N_) 65 ⟨[.ptr 0 0,.slw 1,.agg [.int .i64,.int .i64,.slw 2]],[some (85,1,.cells [.bool,.rof,.int .i64,.int .i64,.rof,.rof,.flt,.flt,.slw 3,.slw 4,.flt]),some (33,1,.flts),some (33,1,.flts),some (33,1,.flts),some (33,1,.flts)]⟩ [.i,.i,.b,.fs,.i,.i,.fs,.fs,.f,.f,.f,.fs,.fs,.fs,.fs] (λS_ c_ Y1 WN b Us Uw UA UH UJ UU UY U6 Vb UF U7 VF=>S_ Y1 WN b Us Uw UA UH UJ UU UY U6 Vb UF U7 VF (λr0 r1 r2=>c_ (.tup [.agg [.nil,vwi r0,vwi r1,.nil],vwi r2]) [⟨85,1,.cells [.bool b,.rof Us,vwi Uw,vwi UA,.rof UH,.rof UJ,.flt UU,.flt UY,.slw 3,.slw 4,.flt U6]⟩,⟨33,1,.flts Vb⟩,⟨33,1,.flts UF⟩,⟨33,1,.flts U7⟩,⟨33,1,.flts VF⟩]) (λr2=>c_ (.tup [.agg [.slw 1,vwi Y1,vwi WN,.slw 2],vwi r2]) [⟨85,1,.cells [.bool b,.rof Us,vwi Uw,vwi UA,.rof UH,.rof UJ,.flt UU,.flt UY,.slw 3,.slw 4,.flt U6]⟩,⟨33,1,.flts Vb⟩,⟨33,1,.flts UF⟩,⟨33,1,.flts U7⟩,⟨33,1,.flts VF⟩])) N_ (bN N_)
def Qz (N_:Nat):LT:=ad (Qy N_) 41 ⟨[.agg [.rof,.int .i64,.int .i64,.rof],.rof,.flt,.flt,.fn 42 []],[]⟩ [.fs,.i,.i,.fs,.fs,.f,.f] (λS_ c_ Vf UR UX UZ h r z=>S_ Vf UR UX UZ h r z (λr0 r1 r2 r3 r4 r5=>c_ (.tup [.agg [.nil,vwi r0,vwi r1,.nil],.agg [.flt r2,.flt r3,.flt r4,.nil],vwi r5]) []) (λr0 r1 r2 r3 r4 r5 r6=>c_ (.tup [.agg [.nil,vwi r0,vwi r1,.nil],.agg [.flt r2,.flt r3,.flt r4,.slw 0],vwi r5]) [⟨33,1,.flts r6⟩]) (λr0 r1 r2 r3 r4 r5 r6 r7 r8=>c_ (.tup [.agg [.slw 0,vwi r0,vwi r1,.slw 1],.agg [.flt r2,.flt r3,.flt r4,.slw 2],vwi r5]) [⟨33,1,.flts r6⟩,⟨33,1,.flts r7⟩,⟨33,1,.flts r8⟩])) N_ (jE N_)
def QA (N_:Nat):LT:=ad (Qz N_) 14 ⟨[.agg [.rof,.int .i64,.int .i64,.rof],.rof,.flt,.flt],[]⟩ [.fs,.i,.i,.fs,.fs,.f,.f] (λS_ c_ Vf UR UX UZ h r z=>S_ Vf UR UX UZ h r z (λr0 r1 r2 r3 r4 r5=>c_ (.tup [.agg [.nil,vwi r0,vwi r1,.nil],.agg [.flt r2,.flt r3,.flt r4,.nil],vwi r5]) []) (λr0 r1 r2 r3 r4 r5 r6=>c_ (.tup [.agg [.nil,vwi r0,vwi r1,.nil],.agg [.flt r2,.flt r3,.flt r4,.slw 0],vwi r5]) [⟨33,1,.flts r6⟩]) (λr0 r1 r2 r3 r4 r5 r6 r7 r8=>c_ (.tup [.agg [.slw 0,vwi r0,vwi r1,.slw 1],.agg [.flt r2,.flt r3,.flt r4,.slw 2],vwi r5]) [⟨33,1,.flts r6⟩,⟨33,1,.flts r7⟩,⟨33,1,.flts r8⟩])) N_ (lH N_)
def QB (N_:Nat):LT:=ao (QA N_) 41 ⟨[.agg [.rof,.int .i64,.int .i64,.rof],.rof,.flt,.flt,.fn 46 []],[]⟩ [.fs,.i,.i,.fs,.fs,.f,.f] (λS_ c_ Vf UR UX UZ h r z=>S_ Vf UR UX UZ h r z (λr0 r1 r2 r3 r4 r5=>c_ (.tup [.agg [.nil,vwi r0,vwi r1,.nil],.agg [.flt r2,.flt r3,.flt r4,.nil],vwi r5]) []) (λr0 r1 r2 r3 r4 r5 r6=>c_ (.tup [.agg [.nil,vwi r0,vwi r1,.nil],.agg [.flt r2,.flt r3,.flt r4,.slw 0],vwi r5]) [⟨33,1,.flts r6⟩]) (λr0 r1 r2 r3 r4 r5 r6 r7 r8=>c_ (.tup [.agg [.slw 0,vwi r0,vwi r1,.slw 1],.agg [.flt r2,.flt r3,.flt r4,.slw 2],vwi r5]) [⟨33,1,.flts r6⟩,⟨33,1,.flts r7⟩,⟨33,1,.flts r8⟩])) N_ (iI N_)
def QC (N_:Nat):LT:=ad (QB N_) 18 ⟨[.agg [.rof,.int .i64,.int .i64,.rof],.rof,.flt,.flt],[]⟩ [.fs,.i,.i,.fs,.fs,.f,.f] (λS_ c_ Vf UR UX UZ h r z=>S_ Vf UR UX UZ h r z (λr0 r1 r2 r3 r4 r5=>c_ (.tup [.agg [.nil,vwi r0,vwi r1,.nil],.agg [.flt r2,.flt r3,.flt r4,.nil],vwi r5]) []) (λr0 r1 r2 r3 r4 r5 r6=>c_ (.tup [.agg [.nil,vwi r0,vwi r1,.nil],.agg [.flt r2,.flt r3,.flt r4,.slw 0],vwi r5]) [⟨33,1,.flts r6⟩]) (λr0 r1 r2 r3 r4 r5 r6 r7 r8=>c_ (.tup [.agg [.slw 0,vwi r0,vwi r1,.slw 1],.agg [.flt r2,.flt r3,.flt r4,.slw 2],vwi r5]) [⟨33,1,.flts r6⟩,⟨33,1,.flts r7⟩,⟨33,1,.flts r8⟩])) N_ (mn N_)
def qp (N_:Nat):LT:=ad (QC N_) 20 ⟨[],[]⟩ [] (λS_ c_=>S_ (λr0=>c_ (.bool r0) [])) N_ (GQ2 N_)
def AF:FnSh:=⟨[.roi .u64,.int .i64,.roi .u64,.agg [.roi .u64,.int .u64,.int .u64]],[]⟩
end
theorem Kj (w:World) (v:Value):Calls Tryz.prog 116 #[.nilIface,v] w λe w'=>e=.returned v/\w'=w:=
 Mp (P:=Tryz.prog) (fc:=116) (fn:=Tryz.f116) (by kernel_rfl) (by kernel_rfl) (by kernel_rfl) rfl rfl rfl rfl rfl rfl rfl rfl rfl rfl rfl rfl rfl rfl rfl rfl rfl rfl rfl (λ_=>rfl) (λ_=>by kernel_rfl) w v
theorem R4:zL Tryz.prog 115:=
 Ka (P:=Tryz.prog) (g:=115) (fc:=116) (fg:=Tryz.f115) (ff:=Tryz.f116) (by kernel_rfl) (by kernel_rfl) (by kernel_rfl) (by kernel_rfl) rfl (by kernel_rfl) (by kernel_rfl) (by kernel_rfl) (by kernel_rfl) (by kernel_rfl) rfl rfl rfl rfl rfl rfl rfl rfl rfl rfl rfl (by kernel_rfl) (by kernel_rfl) Kj
theorem hD_:HD Tryz.prog cW:=by
 intro g hg h;have e:g=115:=by have h:=Dh h; simp at h; omega
 rcases e with rfl
 exact R4
end Go.Proofs.YteifemaagdeomaaGreatDoor
end
