/-
  WHAT THE FUNCTIONS DO, in tables (written by program).
  Conditions: none.
-/
import Derived.Test.YteifemaagdeomaaGreatDoorGp
import Derived.Test.YteifemaagdeomaaGreatDoorMachT
import Derived.Test.YteifemaagdeomaaGreatDoorProg
set_option linter.unusedVariables false
section
namespace Go.Proofs.YteifemaagdeomaaGreatDoor
open Go Go.Mach Go.Proofs
set_option maxRecDepth 50000
abbrev KV:=V->List Blk->Bool
abbrev SPT:=List Atom->KV->Bool
noncomputable abbrev Pg:Program:=Tryz.prog
def vqs:Nat → List V → List V
  | 0,t=>t
  | n+1,t=>.any::vqs n t
abbrev vwi (z:Int):V:=.int .i64 z
abbrev vwu (z:Int):V:=.int .u64 z
abbrev vwv (z:Int):V:=.int .u32 z
abbrev vwr (l:LI):V:=.roi .u64 l
abbrev vws (l:LI):V:=.roi .u32 l
theorem aar {p:Nat → Prop} (h:p 0):∀ i,i<1 → p i
 | 0,_=>h
 | _+1,g=>by omega
theorem Zb {p:Nat → Prop} (h:p 0) (h1:p 1):∀ i,i<2 → p i
 | 0,_=>h
 | 1,_=>h1
 | _+2,g=>by omega
def sqs:Nat → List Sh → List Sh
 | 0,t=>t
 | n+1,t=>.any::sqs n t
noncomputable def ab:Nat->Bool:=S5 [150,140,53,207,185,225,236,74,23,34,35,56,51,50,65,61,60,59,111,126,108,110,123,125,159,133,195,162,134,118,191,232,226,145,182,183,1000238,1000204,1000203,2000115,3000059,3000079,3000064,4000129,4000077]
noncomputable def fmd:Nat->Nat:=λg=>(cond (S5 [109,140,142,143,154,155,156,157,158,165,167,169,185,186,187,194,217,222,232] g) 1 (cond (S5 [160,163,164,196,197] g) 2 0))
noncomputable section
def L0 (N:Nat):List (Nat × Fs):=[]
def Y5:FnSh:=⟨[.fb],[]⟩
def WU (aih:Rj):SPT:=λa_ c_=>match a_ with
 | [.nat a0]=>aih a0 (λr0=>c_ (vwu r0) [])
 | _=>false
abbrev Zd (aih:Rj):Fs:=lA Y5 (WU aih)
def L1 (N:Nat):List (Nat × Fs):=(40,(Zd (HK N)))::L0 N
def VG:FnSh:=⟨[.int .u64],[]⟩
def TZ (ahb:KU):SPT:=λa_ c_=>match a_ with
 | [.int a0]=>ahb a0 (λr0=>c_ (.flt r0) [])
 | _=>false
abbrev VM (ahb:KU):Fs:=lA VG (TZ ahb)
def L2 (N:Nat):List (Nat × Fs):=(36,(VM (EW N)))::L1 N
def L3 (N:Nat):List (Nat × Fs):=ad (L2 N) 9 ⟨[.roi .u64],[]⟩ [.is] (λS_ c_ l=>S_ l (λr0=>c_ (.slw 0) [⟨33,1,.flts r0⟩])) N (zu N)
def L4 (N:Nat):List (Nat × Fs):=ad (L3 N) 101 ⟨[.int .i64,.int .i64,.int .i64],[]⟩ [.i,.i,.i] (λS_ c_ rows cols n=>S_ rows cols n (λr0=>c_ (vwi r0) [])) N (wo N)
def N9:FnSh:=⟨[.flt],[]⟩
def TY (aha:KT):SPT:=λa_ c_=>match a_ with
 | [.fl a0]=>aha a0 (λr0=>c_ (vwu r0) [])
 | _=>false
abbrev VL (aha:KT):Fs:=lA N9 (TY aha)
def L5 (N:Nat):List (Nat × Fs):=(40,(JS (VL (A8 N)) (ofL (L4 N) 40) N9))::L4 N
def L6 (N:Nat):List (Nat × Fs):=ad (L5 N) 95 ⟨[.int .i64,.int .u64,.int .i64],[]⟩ [.i,.i,.i] (λS_ c_ exp frac most=>S_ exp frac most (λr0=>c_ (vwi r0) [])) N (QR N)
def L7 (N:Nat):List (Nat × Fs):=ad (L6 N) 201 ⟨[.int .u64,.int .i64],[]⟩ [.i,.i] (λS_ c_ m e=>S_ m e (λr0 r1=>c_ (.tup [vwu r0,vwi r1]) [])) N (xY N)
def L8 (N:Nat):List (Nat × Fs):=ad (L7 N) 150 ⟨[.slw 0],[some (195,1,.ints .u32)]⟩ [.is] (λS_ c_ b=>S_ b (λr0=>c_ (.sl 0 0 r0) [⟨195,1,.ints .u32 b⟩])) N (Xd N)
def L9 (N:Nat):List (Nat × Fs):=ad (L8 N) 202 ⟨[.int .u64],[]⟩ [.i] (λS_ c_ n=>S_ n (λr0=>c_ (vws r0) [])) N (QM N)
def L10 (N:Nat):List (Nat × Fs):=ao (L9 N) 150 ⟨[.roi .u32],[]⟩ [.is] (λS_ c_ m=>S_ m (λr0=>c_ (vws r0) [])) N (Bp N)
def L11 (N:Nat):List (Nat × Fs):=ad (L10 N) 181 ⟨[.roi .u32,.int .u64],[]⟩ [.is,.i] (λS_ c_ m n=>S_ m n (λr0=>c_ (vws r0) [])) N (zr N)
def L12 (N:Nat):List (Nat × Fs):=ad (L11 N) 174 ⟨[.int .u32],[]⟩ [.i] (λS_ c_ x=>S_ x (λr0=>c_ (vwi r0) [])) N (Ug N)
def L13 (N:Nat):List (Nat × Fs):=ad (L12 N) 144 ⟨[.ptr 0 0],[some (151,1,.cells [.bool,.roi .u32])]⟩ [.b,.is] (λS_ c_ b b_1=>S_ b b_1 (λr0=>c_ (vwu r0) [⟨151,1,.cells [.bool b,vws b_1]⟩])) N (GQ3 N)
def L14 (N:Nat):List (Nat × Fs):=ad (L13 N) 145 ⟨[.roi .u32,.int .u64],[]⟩ [.is,.i] (λS_ c_ m n=>S_ m n (λr0=>c_ (vws r0) [])) N (Xp N)
def L15 (N:Nat):List (Nat × Fs):=ad (L14 N) 175 ⟨[.int .u32],[]⟩ [.i] (λS_ c_ x=>S_ x (λr0=>c_ (vwi r0) [])) N (QA N)
def L16 (N:Nat):List (Nat × Fs):=ad (L15 N) 146 ⟨[.ptr 0 0],[some (151,1,.cells [.bool,.roi .u32])]⟩ [.b,.is] (λS_ c_ b b_1=>S_ b b_1 (λr0=>c_ (vwi r0) [⟨151,1,.cells [.bool b,vws b_1]⟩])) N (XA N)
def L17 (N:Nat):List (Nat × Fs):=ad (L16 N) 148 ⟨[.roi .u32,.roi .u32],[]⟩ [.is,.is] (λS_ c_ a b=>S_ a b (λr0=>c_ (vwi r0) [])) N (Xk N)
def L18 (N:Nat):List (Nat × Fs):=ad (L17 N) 177 ⟨[.roi .u32,.int .i64],[]⟩ [.is,.i] (λS_ c_ m at_=>S_ m at_ (λr0=>c_ (vwu r0) [])) N (zq N)
def L19 (N:Nat):List (Nat × Fs):=ad (L18 N) 176 ⟨[.int .u64,.int .u64],[]⟩ [.i,.i] (λS_ c_ x y=>S_ x y (λr0 r1 r2 r3=>c_ (.tup [vwi r0,vwi r1,vwi r2,vwi r3]) [])) N (QL N)
def L20 (N:Nat):List (Nat × Fs):=ad (L19 N) 179 ⟨[.roi .u32,.int .u32],[]⟩ [.is,.i] (λS_ c_ m d=>S_ m d (λr0 r1=>c_ (.tup [vws r0,vwv r1]) [])) N (QF N)
def L21 (N:Nat):List (Nat × Fs):=ad (L20 N) 182 ⟨[.sl 0,.sl 1,.int .i64,.int .u64],[some (195,1,.ints .u32),some (195,1,.ints .u32)]⟩ [.n,.n,.n,.n,.i,.i,.is,.is] (λS_ c_ u_0 u_1 d_0 d_1 j g b b_1=>S_ u_0 u_1 d_0 d_1 j g b b_1 (λr0 r1=>c_ (.bool r0) [⟨195,1,.ints .u32 r1⟩,⟨195,1,.ints .u32 b_1⟩])) N (Qp N)
def L22 (N:Nat):List (Nat × Fs):=ad (L21 N) 183 ⟨[.sl 0,.sl 1,.int .i64],[some (195,1,.ints .u32),some (195,1,.ints .u32)]⟩ [.n,.n,.n,.n,.i,.is,.is] (λS_ c_ u_0 u_1 d_0 d_1 j b b_1=>S_ u_0 u_1 d_0 d_1 j b b_1 (λr0=>c_ (.tup []) [⟨195,1,.ints .u32 r0⟩,⟨195,1,.ints .u32 b_1⟩])) N (Qq N)
def L23 (N:Nat):List (Nat × Fs):=ao (L22 N) 150 ⟨[.sl 0],[some (195,1,.ints .u32)]⟩ [.n,.n,.is] (λS_ c_ m_0 m_1 b=>S_ m_0 m_1 b (λr1=>c_ (.sl 0 m_0 r1) [⟨195,1,.ints .u32 b⟩])) N (QK N)
def L24 (N:Nat):List (Nat × Fs):=ao (L23 N) 145 ⟨[.sl 0,.int .u64],[some (195,1,.ints .u32)]⟩ [.n,.n,.i,.is] (λS_ c_ m_0 m_1 n b=>S_ m_0 m_1 n b (λr0=>c_ (vws r0) [⟨195,1,.ints .u32 b⟩])) N (Qy N)
def L25 (N:Nat):List (Nat × Fs):=ad (L24 N) 128 ⟨[.roi .u32,.roi .u32],[]⟩ [.is,.is] (λS_ c_ a b=>S_ a b (λr0=>c_ (vws r0) [])) N (XG N)
def L26 (N:Nat):List (Nat × Fs):=ad (L25 N) 204 ⟨[.roi .u32,.roi .u32],[]⟩ [.is,.is] (λS_ c_ a b=>S_ a b (λr0=>c_ (vws r0) [])) N (QE N)
def L27 (N:Nat):List (Nat × Fs):=ad (L26 N) 205 ⟨[.roi .u32,.int .u64,.roi .u32,.int .u64],[]⟩ [.is,.i,.is,.i] (λS_ c_ a u b v=>S_ a u b v (λr0=>c_ (vws r0) [])) N (QQ N)
def L28 (N:Nat):List (Nat × Fs):=ad (L27 N) 178 ⟨[.roi .u32,.int .i64,.roi .u32,.int .i64],[]⟩ [.is,.i,.is,.i] (λS_ c_ a u b v=>S_ a u b v (λr0=>c_ (vws r0) [])) N (xX N)
def L29 (N:Nat):List (Nat × Fs):=ad (L28 N) 122 ⟨[.int .i64,.int .i64],[]⟩ [.i,.i] (λS_ c_ rows cols=>S_ rows cols (λr2=>c_ (.agg [vwi rows,vwi cols,.slw 0]) [⟨146,1,.own 153 RT1 r2 []⟩])) N (QH N)
def L30 (N:Nat):List (Nat × Fs):=ad (L29 N) 124 ⟨[.rp [.bool,.roi .u32,.bool,.roi .u32] 0],[]⟩ [.b,.is,.b,.is] (λS_ c_ z_0 z_1 z_2 z_3=>S_ z_0 z_1 z_2 z_3 (λr0=>c_ (vwi r0) [])) N (Br N)
def L31 (N:Nat):List (Nat × Fs):=ad (L30 N) 203 ⟨[.roi .u32,.roi .u32],[]⟩ [.is,.is] (λS_ c_ a b=>S_ a b (λr0=>c_ (vws r0) [])) N (zt N)
def L32 (N:Nat):List (Nat × Fs):=ad (L31 N) 206 ⟨[.int .u64],[]⟩ [.i] (λS_ c_ x=>S_ x (λr0=>c_ (vwi r0) [])) N (Uh N)
def L33 (N:Nat):List (Nat × Fs):=ad (L32 N) 207 ⟨[.slw 0],[some (23,1,.ints .u64)]⟩ [.is] (λS_ c_ b=>S_ b (λr0=>c_ (.sl 0 0 r0) [⟨23,1,.ints .u64 b⟩])) N (Xm N)
def L34 (N:Nat):List (Nat × Fs):=ad (L33 N) 188 ⟨[.roi .u64,.int .u64],[]⟩ [.is,.i] (λS_ c_ x n=>S_ x n (λr0=>c_ (vwr r0) [])) N (zp N)
def L35 (N:Nat):List (Nat × Fs):=ad (L34 N) 209 ⟨[.roi .u64,.roi .u64],[]⟩ [.is,.is] (λS_ c_ x y=>S_ x y (λr0=>c_ (vwi r0) [])) N (Xu N)
def L36 (N:Nat):List (Nat × Fs):=ad (L35 N) 231 ⟨[.int .u64],[]⟩ [.i] (λS_ c_ x=>S_ x (λr0=>c_ (vwi r0) [])) N (QW N)
def L37 (N:Nat):List (Nat × Fs):=ad (L36 N) 218 ⟨[.roi .u64],[]⟩ [.is] (λS_ c_ x=>S_ x (λr0=>c_ (vwi r0) [])) N (uq N)
def L38 (N:Nat):List (Nat × Fs):=ad (L37 N) 219 ⟨[.int .u64,.int .u64],[]⟩ [.i,.i] (λS_ c_ x y=>S_ x y (λr0 r1 r2 r3 r4=>c_ (.agg [vwu r0,vwu r1,vwu r2,vwu r3,.bool r4]) [])) N (B9 N)
def L39 (N:Nat):List (Nat × Fs):=ad (L38 N) 227 ⟨[.int .u64,.int .u64],[]⟩ [.i,.i] (λS_ c_ x y=>S_ x y (λr0 r1=>c_ (.tup [vwu r0,vwu r1]) [])) N (Qv N)
def aaB:FnSh:=⟨[.int .u64,.int .u64,.int .u64],[]⟩
def aaE (SQ6:Yj):SPT:=λa_ c_=>match a_ with
 | [.int a0,.int a1,.int a2]=>SQ6 a0 a1 a2 (λr0 r1=>c_ (.tup [vwu r0,vwu r1]) [])
 | _=>false
abbrev FQ6 (SQ6:Yj):Fs:=lA aaB (aaE SQ6)
def L40 (N:Nat):List (Nat × Fs):=(228,(FQ6 (sQ6 N)))::L39 N
def L41 (N:Nat):List (Nat × Fs):=ad (L40 N) 211 ⟨[.int .u64,.int .u64,.int .u64,.int .u64],[]⟩ [.i,.i,.i,.i] (λS_ c_ a b c d=>S_ a b c d (λr0 r1=>c_ (.tup [vwu r0,vwu r1]) [])) N (zo N)
def L42 (N:Nat):List (Nat × Fs):=ad (L41 N) 234 ⟨[.roi .u64,.int .u64,.int .u64],[]⟩ [.is,.i,.i] (λS_ c_ x d more=>S_ x d more (λr0=>c_ (vwr r0) [])) N (Qu N)
def Y4:FnSh:=⟨[.int .u64,.int .u64,.int .u64],[]⟩
def WT (aie:Ri):SPT:=λa_ c_=>match a_ with
 | [.int a0,.int a1,.int a2]=>aie a0 a1 a2 (λr0 r1=>c_ (.tup [vwu r0,vwu r1]) [])
 | _=>false
abbrev Zc (aie:Ri):Fs:=lA Y4 (WT aie)
def L43 (N:Nat):List (Nat × Fs):=(237,(Zc (J5 N)))::L42 N
def L44 (N:Nat):List (Nat × Fs):=ao (L43 N) 207 ⟨[.sl 0],[some (23,1,.ints .u64)]⟩ [.n,.n,.is] (λS_ c_ x_0 x_1 b=>S_ x_0 x_1 b (λr1=>c_ (.sl 0 x_0 r1) [⟨23,1,.ints .u64 b⟩])) N (QG N)
def L45 (N:Nat):List (Nat × Fs):=ad (L44 N) 192 ⟨[.roi .u64,.roi .u64],[]⟩ [.is,.is] (λS_ c_ x y=>S_ x y (λr0=>c_ (vwr r0) [])) N (XC N)
def L46 (N:Nat):List (Nat × Fs):=ad (L45 N) 159 ⟨[.agg [.int .i64,.int .i64,.slw 0],.int .i64,.int .i64],[some (179,1,.recs RT3)]⟩ [.i,.i,.i,.i,.r RT3] (λS_ c_ g_0 g_1 i j b=>S_ g_0 g_1 i j b (λr0 r1 r2 r3=>c_ (.agg [.rp [.bool r0,vwr r1,.bool r2,vwr r3] 0]) [⟨179,1,.recs RT3 b⟩])) N (f8 N)
def L47 (N:Nat):List (Nat × Fs):=ad (L46 N) 214 ⟨[.rp [.bool,.roi .u64,.bool,.roi .u64] 0],[]⟩ [.b,.is,.b,.is] (λS_ c_ x_0 x_1 x_2 x_3=>S_ x_0 x_1 x_2 x_3 (λr0=>c_ (vwi r0) [])) N (QO N)
def L48 (N:Nat):List (Nat × Fs):=ad (L47 N) 60 ⟨[.agg [.int .i64,.int .i64,.rof],.int .i64],[]⟩ [.i,.i,.fs,.i] (λS_ c_ m_0 m_1 m_2 i=>S_ m_0 m_1 m_2 i (λr0=>c_ (.rof r0) [])) N (ut N)
def PR:FnSh:=⟨[.flt],[]⟩
def E7 (afC:DD):SPT:=λa_ c_=>match a_ with
 | [.fl x]=>afC x (λr0=>c_ (.flt r0) [])
 | _=>false
abbrev MZ (afC:DD):Fs:=lA PR (E7 afC)
def L49 (N:Nat):List (Nat × Fs):=(105,(MZ (Bb N)))::L48 N
def N8:FnSh:=⟨[.fb],[]⟩
def MO (ag9:Rh):SPT:=λa_ c_=>match a_ with
 | [.nat x]=>ag9 x (λr0=>c_ (.flt r0) [])
 | _=>false
abbrev P7 (ag9:Rh):Fs:=lA N8 (MO ag9)
def L50 (N:Nat):List (Nat × Fs):=ad (L49 N) 91 ⟨[.flt,.int .i64],[]⟩ [.f,.i] (λS_ c_ f sign=>S_ f sign (λr0=>c_ (.bool r0) [])) N (xW N)
def L51 (N:Nat):List (Nat × Fs):=ad (L50 N) 64 ⟨[.ptr 0 0,.flt],[some (85,1,.cells [.bool,.rof,.int .i64,.int .i64,.rof,.rof,.flt,.flt,.nil,.nil,.flt])]⟩ [.f,.b,.fs,.i,.i,.fs,.fs,.f,.f,.f] (λS_ c_ x b b_1 b_2 b_3 b_4 b_5 b_6 b_7 b_8=>S_ x b b_1 b_2 b_3 b_4 b_5 b_6 b_7 b_8 (λr1=>c_ (.flt x) [⟨85,1,.cells [.bool r1,.rof b_1,vwi b_2,vwi b_3,.rof b_4,.rof b_5,.flt b_6,.flt b_7,.nil,.nil,.flt b_8]⟩])) N (V0 N)
def L52 (N:Nat):List (Nat × Fs):=ad (L51 N) 79 ⟨[.ptr 0 0,.flt,.flt],[some (85,1,.cells [.bool,.rof,.int .i64,.int .i64,.rof,.rof,.flt,.flt,.nil,.nil,.flt])]⟩ [.f,.f,.b,.fs,.i,.i,.fs,.fs,.f,.f,.f] (λS_ c_ a b b_1 b_2 b_3 b_4 b_5 b_6 b_7 b_8 b_9=>S_ a b b_1 b_2 b_3 b_4 b_5 b_6 b_7 b_8 b_9 (λr0 r1=>c_ (.flt r0) [⟨85,1,.cells [.bool r1,.rof b_2,vwi b_3,vwi b_4,.rof b_5,.rof b_6,.flt b_7,.flt b_8,.nil,.nil,.flt b_9]⟩])) N (V1 N)
def L53 (N:Nat):List (Nat × Fs):=ad (L52 N) 59 ⟨[.ptr 0 0,.rof,.rof],[some (85,1,.cells [.bool,.rof,.int .i64,.int .i64,.rof,.rof,.flt,.flt,.nil,.nil,.flt])]⟩ [.fs,.fs,.b,.fs,.i,.i,.fs,.fs,.f,.f,.f] (λS_ c_ a b b_1 b_2 b_3 b_4 b_5 b_6 b_7 b_8 b_9=>S_ a b b_1 b_2 b_3 b_4 b_5 b_6 b_7 b_8 b_9 (λr0 r1=>c_ (.flt r0) [⟨85,1,.cells [.bool r1,.rof b_2,vwi b_3,vwi b_4,.rof b_5,.rof b_6,.flt b_7,.flt b_8,.nil,.nil,.flt b_9]⟩])) N (VU N)
def L54 (N:Nat):List (Nat × Fs):=ao (L53 N) 64 ⟨[.ptr 0 0,.flt],[some (85,1,.cells [.bool,.rof,.int .i64,.int .i64,.rof,.rof,.flt,.flt,.slw 1,.nil,.flt]),some (33,1,.flts)]⟩ [.f,.b,.fs,.i,.i,.fs,.fs,.f,.f,.f,.fs] (λS_ c_ x b b_1 b_2 b_3 b_4 b_5 b_6 b_7 b_8 b_9=>S_ x b b_1 b_2 b_3 b_4 b_5 b_6 b_7 b_8 b_9 (λr1=>c_ (.flt x) [⟨85,1,.cells [.bool r1,.rof b_1,vwi b_2,vwi b_3,.rof b_4,.rof b_5,.flt b_6,.flt b_7,.slw 1,.nil,.flt b_8]⟩,⟨33,1,.flts b_9⟩])) N (Xi N)
def L55 (N:Nat):List (Nat × Fs):=ao (L54 N) 79 ⟨[.ptr 0 0,.flt,.flt],[some (85,1,.cells [.bool,.rof,.int .i64,.int .i64,.rof,.rof,.flt,.flt,.slw 1,.nil,.flt]),some (33,1,.flts)]⟩ [.f,.f,.b,.fs,.i,.i,.fs,.fs,.f,.f,.f,.fs] (λS_ c_ a b b_1 b_2 b_3 b_4 b_5 b_6 b_7 b_8 b_9 acp=>S_ a b b_1 b_2 b_3 b_4 b_5 b_6 b_7 b_8 b_9 acp (λr0 r1=>c_ (.flt r0) [⟨85,1,.cells [.bool r1,.rof b_2,vwi b_3,vwi b_4,.rof b_5,.rof b_6,.flt b_7,.flt b_8,.slw 1,.nil,.flt b_9]⟩,⟨33,1,.flts acp⟩])) N (Xw N)
def L56 (N:Nat):List (Nat × Fs):=ao (L55 N) 59 ⟨[.ptr 0 0,.rof,.rof],[some (85,1,.cells [.bool,.rof,.int .i64,.int .i64,.rof,.rof,.flt,.flt,.slw 1,.nil,.flt]),some (33,1,.flts)]⟩ [.fs,.fs,.b,.fs,.i,.i,.fs,.fs,.f,.f,.f,.fs] (λS_ c_ a b b_1 b_2 b_3 b_4 b_5 b_6 b_7 b_8 b_9 acp=>S_ a b b_1 b_2 b_3 b_4 b_5 b_6 b_7 b_8 b_9 acp (λr0 r1=>c_ (.flt r0) [⟨85,1,.cells [.bool r1,.rof b_2,vwi b_3,vwi b_4,.rof b_5,.rof b_6,.flt b_7,.flt b_8,.slw 1,.nil,.flt b_9]⟩,⟨33,1,.flts acp⟩])) N (Xf N)
def L57 (N:Nat):List (Nat × Fs):=ao (L56 N) 59 ⟨[.ptr 0 0,.rof,.slw 1],[some (85,1,.cells [.bool,.rof,.int .i64,.int .i64,.rof,.rof,.flt,.flt,.slw 1,.nil,.flt]),some (33,1,.flts)]⟩ [.fs,.b,.fs,.i,.i,.fs,.fs,.f,.f,.f,.fs] (λS_ c_ a b b_1 b_2 b_3 b_4 b_5 b_6 b_7 b_8 b_9=>S_ a b b_1 b_2 b_3 b_4 b_5 b_6 b_7 b_8 b_9 (λr0 r1=>c_ (.flt r0) [⟨85,1,.cells [.bool r1,.rof b_1,vwi b_2,vwi b_3,.rof b_4,.rof b_5,.flt b_6,.flt b_7,.slw 1,.nil,.flt b_8]⟩,⟨33,1,.flts b_9⟩])) N (Xb N)
def L58 (N:Nat):List (Nat × Fs):=ad (L57 N) 77 ⟨[.ptr 0 0],[some (85,1,.cells [.bool,.rof,.int .i64,.int .i64,.rof,.rof,.flt,.flt,.slw 1,.nil,.flt]),some (33,1,.flts)]⟩ [.b,.fs,.i,.i,.fs,.fs,.f,.f,.f,.fs] (λS_ c_ b b_1 b_2 b_3 b_4 b_5 b_6 b_7 b_8 b_9=>S_ b b_1 b_2 b_3 b_4 b_5 b_6 b_7 b_8 b_9 (c_ (.bool b) [⟨85,1,.cells [.bool b,.rof b_1,vwi b_2,vwi b_3,.rof b_4,.rof b_5,.flt b_6,.flt b_7,.slw 1,.nil,.flt b_8]⟩,⟨33,1,.flts b_9⟩])) N (Qc N)
def L59 (N:Nat):List (Nat × Fs):=ao (L58 N) 64 ⟨[.ptr 0 0,.flt],[some (85,1,.cells [.bool,.rof,.int .i64,.int .i64,.rof,.rof,.flt,.flt,.slw 1,.slw 2,.flt]),some (33,1,.flts),some (33,1,.flts)]⟩ [.f,.b,.fs,.i,.i,.fs,.fs,.f,.f,.f,.fs,.fs] (λS_ c_ x b b_1 b_2 b_3 b_4 b_5 b_6 b_7 b_8 b_9 acp=>S_ x b b_1 b_2 b_3 b_4 b_5 b_6 b_7 b_8 b_9 acp (λr1=>c_ (.flt x) [⟨85,1,.cells [.bool r1,.rof b_1,vwi b_2,vwi b_3,.rof b_4,.rof b_5,.flt b_6,.flt b_7,.slw 1,.slw 2,.flt b_8]⟩,⟨33,1,.flts b_9⟩,⟨33,1,.flts acp⟩])) N (W7 N)
def L60 (N:Nat):List (Nat × Fs):=ao (L59 N) 79 ⟨[.ptr 0 0,.flt,.flt],[some (85,1,.cells [.bool,.rof,.int .i64,.int .i64,.rof,.rof,.flt,.flt,.slw 1,.slw 2,.flt]),some (33,1,.flts),some (33,1,.flts)]⟩ [.f,.f,.b,.fs,.i,.i,.fs,.fs,.f,.f,.f,.fs,.fs] (λS_ c_ a b b_1 b_2 b_3 b_4 b_5 b_6 b_7 b_8 b_9 acp acI=>S_ a b b_1 b_2 b_3 b_4 b_5 b_6 b_7 b_8 b_9 acp acI (λr0 r1=>c_ (.flt r0) [⟨85,1,.cells [.bool r1,.rof b_2,vwi b_3,vwi b_4,.rof b_5,.rof b_6,.flt b_7,.flt b_8,.slw 1,.slw 2,.flt b_9]⟩,⟨33,1,.flts acp⟩,⟨33,1,.flts acI⟩])) N (W6 N)
def L61 (N:Nat):List (Nat × Fs):=ao (L60 N) 60 ⟨[.agg [.int .i64,.int .i64,.slw 0],.int .i64],[some (33,1,.flts)]⟩ [.i,.i,.i,.fs] (λS_ c_ m_0 m_1 i b=>S_ m_0 m_1 i b (λr0 r1=>c_ (.sl 0 r0 r1) [⟨33,1,.flts b⟩])) N (q8 N)
def L62 (N:Nat):List (Nat × Fs):=ad (L61 N) 90 ⟨[.agg [.int .i64,.int .i64,.rof],.int .i64],[]⟩ [.i,.i,.fs,.i] (λS_ c_ m_0 m_1 m_2 j=>S_ m_0 m_1 m_2 j (λr0=>c_ (.slw 0) [⟨33,1,.flts r0⟩])) N (ur N)
def L63 (N:Nat):List (Nat × Fs):=ao (L62 N) 59 ⟨[.ptr 0 0,.sl 1,.slw 2],[some (85,1,.cells [.bool,.rof,.int .i64,.int .i64,.rof,.rof,.flt,.flt,.slw 3,.slw 4,.flt]),some (33,1,.flts),some (33,1,.flts),some (33,1,.flts),some (33,1,.flts)]⟩ [.n,.n,.b,.fs,.i,.i,.fs,.fs,.f,.f,.f,.fs,.fs,.fs,.fs] (λS_ c_ a_0 a_1 b b_1 b_2 b_3 b_4 b_5 b_6 b_7 b_8 b_9 acp acI acR=>S_ a_0 a_1 b b_1 b_2 b_3 b_4 b_5 b_6 b_7 b_8 b_9 acp acI acR (λr0 r1=>c_ (.flt r0) [⟨85,1,.cells [.bool r1,.rof b_1,vwi b_2,vwi b_3,.rof b_4,.rof b_5,.flt b_6,.flt b_7,.slw 3,.slw 4,.flt b_8]⟩,⟨33,1,.flts b_9⟩,⟨33,1,.flts acp⟩,⟨33,1,.flts acI⟩,⟨33,1,.flts acR⟩])) N (W9 N)
def L64 (N:Nat):List (Nat × Fs):=ad (L63 N) 61 ⟨[.ptr 0 0,.agg [.int .i64,.int .i64,.slw 1],.agg [.int .i64,.int .i64,.rof]],[some (85,1,.cells [.bool,.rof,.int .i64,.int .i64,.rof,.rof,.flt,.flt,.slw 2,.slw 3,.flt]),some (33,1,.flts),some (33,1,.flts),some (33,1,.flts)]⟩ [.i,.i,.i,.i,.fs,.b,.fs,.i,.i,.fs,.fs,.f,.f,.f,.fs,.fs,.fs] (λS_ c_ a_0 a_1 b_0 b_1 b_2 b b_3 b_4 b_5 b_6 b_7 b_8 b_9 acp acI acR acY=>S_ a_0 a_1 b_0 b_1 b_2 b b_3 b_4 b_5 b_6 b_7 b_8 b_9 acp acI acR acY (λr2 r14=>c_ (.agg [vwi a_0,vwi b_1,.slw 4]) [⟨85,1,.cells [.bool r2,.rof b_3,vwi b_4,vwi b_5,.rof b_6,.rof b_7,.flt b_8,.flt b_9,.slw 2,.slw 3,.flt acp]⟩,⟨33,1,.flts acI⟩,⟨33,1,.flts acR⟩,⟨33,1,.flts acY⟩,⟨33,1,.flts r14⟩])) N (du N)
def L65 (N:Nat):List (Nat × Fs):=ao (L64 N) 59 ⟨[.ptr 0 0,.sl 1,.sl 2],[some (85,1,.cells [.bool,.rof,.int .i64,.int .i64,.rof,.rof,.flt,.flt,.slw 3,.slw 4,.flt]),some (33,1,.flts),some (33,1,.flts),some (33,1,.flts),some (33,1,.flts)]⟩ [.n,.n,.n,.n,.b,.fs,.i,.i,.fs,.fs,.f,.f,.f,.fs,.fs,.fs,.fs] (λS_ c_ a_0 a_1 b_0 b_1 b b_2 b_3 b_4 b_5 b_6 b_7 b_8 b_9 acp acI acR acY=>S_ a_0 a_1 b_0 b_1 b b_2 b_3 b_4 b_5 b_6 b_7 b_8 b_9 acp acI acR acY (λr0 r1=>c_ (.flt r0) [⟨85,1,.cells [.bool r1,.rof b_2,vwi b_3,vwi b_4,.rof b_5,.rof b_6,.flt b_7,.flt b_8,.slw 3,.slw 4,.flt b_9]⟩,⟨33,1,.flts acp⟩,⟨33,1,.flts acI⟩,⟨33,1,.flts acR⟩,⟨33,1,.flts acY⟩])) N (W8 N)
def L66 (N:Nat):List (Nat × Fs):=ad (L65 N) 80 ⟨[.int .i64,.int .i64,.ptr 0 0,.ptr 1 0,.ptr 2 0],[some (79,1,.cells [.ptr 3 0]),some (28,1,.cells [.int .i64,.int .i64,.slw 4]),some (28,1,.cells [.int .i64,.int .i64,.slw 5]),some (85,1,.cells [.bool,.rof,.int .i64,.int .i64,.rof,.rof,.flt,.flt,.slw 6,.slw 7,.flt]),some (33,1,.flts),some (33,1,.flts),some (33,1,.flts),some (33,1,.flts)]⟩ [.i,.i,.i,.i,.i,.i,.b,.fs,.i,.i,.fs,.fs,.f,.f,.f,.fs,.fs,.fs,.fs] (λS_ c_ i j b b_1 b_2 b_3 b_4 b_5 b_6 b_7 b_8 b_9 acp acI acR acY adJ ad_ adp=>S_ i j b b_1 b_2 b_3 b_4 b_5 b_6 b_7 b_8 b_9 acp acI acR acY adJ ad_ adp (λr0 r5=>c_ (.flt r0) [⟨79,1,.cells [.ptr 3 0]⟩,⟨28,1,.cells [vwi b,vwi b_1,.slw 4]⟩,⟨28,1,.cells [vwi b_2,vwi b_3,.slw 5]⟩,⟨85,1,.cells [.bool r5,.rof b_5,vwi b_6,vwi b_7,.rof b_8,.rof b_9,.flt acp,.flt acI,.slw 6,.slw 7,.flt acR]⟩,⟨33,1,.flts acY⟩,⟨33,1,.flts adJ⟩,⟨33,1,.flts ad_⟩,⟨33,1,.flts adp⟩])) N (bD N)
def L67 (N:Nat):List (Nat × Fs):=ad (L66 N) 62 ⟨[.int .i64,.fn 80 [.ptr 0 0,.ptr 1 0,.ptr 2 0]],[some (79,1,.cells [.ptr 3 0]),some (28,1,.cells [.int .i64,.int .i64,.slw 4]),some (28,1,.cells [.int .i64,.int .i64,.slw 5]),some (85,1,.cells [.bool,.rof,.int .i64,.int .i64,.rof,.rof,.flt,.flt,.slw 6,.slw 7,.flt]),some (33,1,.flts),some (33,1,.flts),some (33,1,.flts),some (33,1,.flts)]⟩ [.i,.i,.i,.i,.i,.b,.fs,.i,.i,.fs,.fs,.f,.f,.f,.fs,.fs,.fs,.fs] (λS_ c_ n b b_1 b_2 b_3 b_4 b_5 b_6 b_7 b_8 b_9 acp acI acR acY adJ ad_ adp=>S_ n b b_1 b_2 b_3 b_4 b_5 b_6 b_7 b_8 b_9 acp acI acR acY adJ ad_ adp (λr6 r19=>c_ (.agg [vwi n,vwi n,.slw 8]) [⟨79,1,.cells [.ptr 3 0]⟩,⟨28,1,.cells [vwi b,vwi b_1,.slw 4]⟩,⟨28,1,.cells [vwi b_2,vwi b_3,.slw 5]⟩,⟨85,1,.cells [.bool r6,.rof b_5,vwi b_6,vwi b_7,.rof b_8,.rof b_9,.flt acp,.flt acI,.slw 6,.slw 7,.flt acR]⟩,⟨33,1,.flts acY⟩,⟨33,1,.flts adJ⟩,⟨33,1,.flts ad_⟩,⟨33,1,.flts adp⟩,⟨33,1,.flts r19⟩])) N (co N)
def L68 (N:Nat):List (Nat × Fs):=ad (L67 N) 43 ⟨[.ptr 0 0],[some (85,1,.cells [.bool,.rof,.int .i64,.int .i64,.rof,.rof,.flt,.flt,.slw 1,.slw 2,.flt]),some (33,1,.flts),some (33,1,.flts)]⟩ [.b,.fs,.i,.i,.fs,.fs,.f,.f,.f,.fs,.fs] (λS_ c_ b b_1 b_2 b_3 b_4 b_5 b_6 b_7 b_8 b_9 acp=>S_ b b_1 b_2 b_3 b_4 b_5 b_6 b_7 b_8 b_9 acp (λr0 r1 r2 r13=>c_ (.agg [vwi r0,vwi r1,.slw 3]) [⟨85,1,.cells [.bool r2,.rof b_1,vwi b_2,vwi b_3,.rof b_4,.rof b_5,.flt b_6,.flt b_7,.slw 1,.slw 2,.flt b_8]⟩,⟨33,1,.flts b_9⟩,⟨33,1,.flts acp⟩,⟨33,1,.flts r13⟩])) N (cJ N)
def L69 (N:Nat):List (Nat × Fs):=ao (L68 N) 77 ⟨[.ptr 0 0],[some (85,1,.cells [.bool,.rof,.int .i64,.int .i64,.rof,.rof,.flt,.flt,.slw 1,.slw 2,.flt]),some (33,1,.flts),some (33,1,.flts)]⟩ [.b,.fs,.i,.i,.fs,.fs,.f,.f,.f,.fs,.fs] (λS_ c_ b b_1 b_2 b_3 b_4 b_5 b_6 b_7 b_8 b_9 acp=>S_ b b_1 b_2 b_3 b_4 b_5 b_6 b_7 b_8 b_9 acp (c_ (.bool b) [⟨85,1,.cells [.bool b,.rof b_1,vwi b_2,vwi b_3,.rof b_4,.rof b_5,.flt b_6,.flt b_7,.slw 1,.slw 2,.flt b_8]⟩,⟨33,1,.flts b_9⟩,⟨33,1,.flts acp⟩])) N (XD N)
def L70 (N:Nat):List (Nat × Fs):=ao (L69 N) 64 ⟨[.ptr 0 0,.flt],[some (83,1,.cells [.bool])]⟩ [.f,.b] (λS_ c_ x b=>S_ x b (λr1=>c_ (.flt x) [⟨83,1,.cells [.bool r1]⟩])) N (M4 N)
def L71 (N:Nat):List (Nat × Fs):=ao (L70 N) 79 ⟨[.ptr 0 0,.flt,.flt],[some (83,1,.cells [.bool])]⟩ [.f,.f,.b] (λS_ c_ a b b_1=>S_ a b b_1 (λr0 r1=>c_ (.flt r0) [⟨83,1,.cells [.bool r1]⟩])) N (QI N)
def L72 (N:Nat):List (Nat × Fs):=ao (L71 N) 59 ⟨[.ptr 0 0,.rof,.rof],[some (83,1,.cells [.bool])]⟩ [.fs,.fs,.b] (λS_ c_ a b b_1=>S_ a b b_1 (λr0 r1=>c_ (.flt r0) [⟨83,1,.cells [.bool r1]⟩])) N (QD N)
def L73 (N:Nat):List (Nat × Fs):=ao (L72 N) 59 ⟨[.ptr 0 0,.rof,.slw 1],[some (83,1,.cells [.bool]),some (33,1,.flts)]⟩ [.fs,.b,.fs] (λS_ c_ a b b_1=>S_ a b b_1 (λr0 r1=>c_ (.flt r0) [⟨83,1,.cells [.bool r1]⟩,⟨33,1,.flts b_1⟩])) N (Qm N)
def L74 (N:Nat):List (Nat × Fs):=ao (L73 N) 61 ⟨[.ptr 0 0,.agg [.int .i64,.int .i64,.rof],.agg [.int .i64,.int .i64,.rof]],[some (83,1,.cells [.bool])]⟩ [.i,.i,.fs,.i,.i,.fs,.b] (λS_ c_ a_0 a_1 a_2 b_0 b_1 b_2 b=>S_ a_0 a_1 a_2 b_0 b_1 b_2 b (λr2 r3=>c_ (.agg [vwi a_0,vwi b_1,.slw 1]) [⟨83,1,.cells [.bool r2]⟩,⟨33,1,.flts r3⟩])) N (kh N)
def L75 (N:Nat):List (Nat × Fs):=ao (L74 N) 59 ⟨[.ptr 0 0,.sl 1,.rof],[some (83,1,.cells [.bool]),some (33,1,.flts)]⟩ [.n,.n,.fs,.b,.fs] (λS_ c_ a_0 a_1 b b_1 b_2=>S_ a_0 a_1 b b_1 b_2 (λr0 r1=>c_ (.flt r0) [⟨83,1,.cells [.bool r1]⟩,⟨33,1,.flts b_2⟩])) N (Ql N)
def L76 (N:Nat):List (Nat × Fs):=ad (L75 N) 63 ⟨[.int .i64,.int .i64,.ptr 0 0,.ptr 1 0,.ptr 2 0,.ptr 3 0,.ptr 4 0],[some (108,1,.cells [.ptr 5 0]),some (28,1,.cells [.int .i64,.int .i64,.slw 6]),some (28,1,.cells [.int .i64,.int .i64,.rof]),some (28,1,.cells [.int .i64,.int .i64,.rof]),some (3,1,.cells [.int .i64]),some (83,1,.cells [.bool]),some (33,1,.flts)]⟩ [.i,.i,.i,.i,.i,.i,.fs,.i,.i,.fs,.i,.b,.fs] (λS_ c_ i j b b_1 b_2 b_3 b_4 b_5 b_6 b_7 b_8 b_9 acp=>S_ i j b b_1 b_2 b_3 b_4 b_5 b_6 b_7 b_8 b_9 acp (λr0 r10=>c_ (.flt r0) [⟨108,1,.cells [.ptr 5 0]⟩,⟨28,1,.cells [vwi b,vwi b_1,.slw 6]⟩,⟨28,1,.cells [vwi b_2,vwi b_3,.rof b_4]⟩,⟨28,1,.cells [vwi b_5,vwi b_6,.rof b_7]⟩,⟨3,1,.cells [vwi b_8]⟩,⟨83,1,.cells [.bool r10]⟩,⟨33,1,.flts acp⟩])) N (bU N)
def L77 (N:Nat):List (Nat × Fs):=ao (L76 N) 62 ⟨[.int .i64,.fn 63 [.ptr 0 0,.ptr 1 0,.ptr 2 0,.ptr 3 0,.ptr 4 0]],[some (108,1,.cells [.ptr 5 0]),some (28,1,.cells [.int .i64,.int .i64,.slw 6]),some (28,1,.cells [.int .i64,.int .i64,.rof]),some (28,1,.cells [.int .i64,.int .i64,.rof]),some (3,1,.cells [.int .i64]),some (83,1,.cells [.bool]),some (33,1,.flts)]⟩ [.i,.i,.i,.i,.i,.fs,.i,.i,.fs,.i,.b,.fs] (λS_ c_ n b b_1 b_2 b_3 b_4 b_5 b_6 b_7 b_8 b_9 acp=>S_ n b b_1 b_2 b_3 b_4 b_5 b_6 b_7 b_8 b_9 acp (λr11 r13=>c_ (.agg [vwi n,vwi n,.slw 7]) [⟨108,1,.cells [.ptr 5 0]⟩,⟨28,1,.cells [vwi b,vwi b_1,.slw 6]⟩,⟨28,1,.cells [vwi b_2,vwi b_3,.rof b_4]⟩,⟨28,1,.cells [vwi b_5,vwi b_6,.rof b_7]⟩,⟨3,1,.cells [vwi b_8]⟩,⟨83,1,.cells [.bool r11]⟩,⟨33,1,.flts acp⟩,⟨33,1,.flts r13⟩])) N (eP N)
def L78 (N:Nat):List (Nat × Fs):=ao (L77 N) 77 ⟨[.ptr 0 0],[some (83,1,.cells [.bool])]⟩ [.b] (λS_ c_ b=>S_ b (c_ (.bool b) [⟨83,1,.cells [.bool b]⟩])) N (QP N)
def L79 (N:Nat):List (Nat × Fs):=ad (L78 N) 27 ⟨[.rof,.rof],[]⟩ [.fs,.fs] (λS_ c_ a b=>S_ a b (λr0=>c_ (.bool r0) [])) N (GQ2 N)
def L80 (N:Nat):List (Nat × Fs):=upM Pg ab N fmd (L79 N) [13,11,68,53,26,42,195,161,194,217,158,222,224,232,154,187,185,186,131,89,98,109,108,180,143,140,55,102,8,137,136,135,104]
def L81 (N:Nat):List (Nat × Fs):=ad (L80 N) 119 ⟨[.int .u64,.agg [.int .u64,.int .i64,.int .i64]],[]⟩ [.i,.i,.i,.i] (λS_ c_ b f_0 f_1 f_2=>S_ b f_0 f_1 f_2 (λr0=>c_ (.bool r0) [])) N (Qx N)
def L82 (N:Nat):List (Nat × Fs):=ad (L81 N) 120 ⟨[.agg [.int .u64,.int .i64,.int .i64]],[]⟩ [.i,.i,.i] (λS_ c_ f_0 f_1 f_2=>S_ f_0 f_1 f_2 (λr0=>c_ (vwu r0) [])) N (Bo N)
def L83 (N:Nat):List (Nat × Fs):=ad (L82 N) 94 ⟨[.flt],[]⟩ [.f] (λS_ c_ x=>S_ x (λr0 r1 r2=>c_ (.tup [.bool r0,vwi r1,vwu r2]) [])) N (wn N)
def L84 (N:Nat):List (Nat × Fs):=ad (L83 N) 85 ⟨[.flt,.flt],[]⟩ [.f,.f] (λS_ c_ a b=>S_ a b (λr0=>c_ (.bool r0) [])) N (zw N)
def L85 (N:Nat):List (Nat × Fs):=ad (L84 N) 170 ⟨[.flt],[]⟩ [.f] (λS_ c_ x=>S_ x (λr0 r1 r2 r3=>c_ (.tup [.agg [.bool r0,vwu r1,vwi r2],vwi r3]) [])) N (Ic N)
def L86 (N:Nat):List (Nat × Fs):=ad (L85 N) 171 ⟨[.ptr 0 0,.int .u64],[some (151,1,.cells [.bool,.nil])]⟩ [.i,.b] (λS_ c_ n b=>S_ n b (λr0 r1=>c_ (.ptr 0 0) [⟨151,1,.cells [.bool r0,vws r1]⟩])) N (Qe N)
def L87 (N:Nat):List (Nat × Fs):=ad (L86 N) 172 ⟨[.ptr 0 0,.ptr 0 0],[some (151,1,.cells [.bool,.roi .u32])]⟩ [.b,.is] (λS_ c_ b b_1=>S_ b b_1 (λr0 r1=>c_ (.ptr 0 0) [⟨151,1,.cells [.bool r0,vws r1]⟩])) N (QJ N)
def L88 (N:Nat):List (Nat × Fs):=ad (L87 N) 139 ⟨[.flt],[]⟩ [.f] (λS_ c_ x=>S_ x (λr0 r1 r2=>c_ (.agg [.ptr 0 0,vwi r0]) [⟨151,1,.cells [.bool r1,vws r2]⟩])) N (Dw N)
def L89 (N:Nat):List (Nat × Fs):=ad (L88 N) 168 ⟨[.ptr 0 0,.ptr 1 0,.int .u64],[some (151,1,.cells [.bool,.nil]),some (151,1,.cells [.bool,.roi .u32])]⟩ [.i,.b,.b,.is] (λS_ c_ n b b_1 b_2=>S_ n b b_1 b_2 (λr0 r1=>c_ (.ptr 0 0) [⟨151,1,.cells [.bool r0,vws r1]⟩,⟨151,1,.cells [.bool b_1,vws b_2]⟩])) N (Qw N)
def M90 (N:Nat):List (Nat × Fs):=ad (L89 N) 181 ⟨[.roi .u32,.int .u64],[]⟩ [.is,.i] (λS_ c_ m n=>S_ m n (c_ (.nil) []) (λr0 r1=>c_ (.sl 0 0 r0) [⟨195,1,.ints .u32 r1⟩])) N (Xl N)
def L90 (N:Nat):List (Nat × Fs):=ad (L89 N) 149 ⟨[.roi .u32,.roi .u32],[]⟩ [.is,.is] (λS_ c_ a b=>S_ a b (λr0 r1=>c_ (.tup [vws r0,vws r1]) [])) N (KI N)
def L91 (N:Nat):List (Nat × Fs):=ad (L90 N) 147 ⟨[.roi .u32,.roi .u32],[]⟩ [.is,.is] (λS_ c_ a b=>S_ a b (λr0=>c_ (vws r0) [])) N (QV N)
def L92 (N:Nat):List (Nat × Fs):=ad (L91 N) 127 ⟨[.ptr 0 0,.bool,.roi .u32,.roi .u32],[some (153,1,.cells [.bool,.nil,.bool,.nil])]⟩ [.b,.is,.is,.b,.b] (λS_ c_ neg a b b_1 b_2=>S_ neg a b b_1 b_2 (λr0 r1 r2 r3=>c_ (.ptr 0 0) [⟨153,1,.cells [.bool r0,vws r1,.bool r2,vws r3]⟩])) N (Qd N)
def L93 (N:Nat):List (Nat × Fs):=ad (L92 N) 200 ⟨[.ptr 0 0,.int .i64],[some (151,1,.cells [.bool,.nil])]⟩ [.i,.b] (λS_ c_ n b=>S_ n b (λr0 r1=>c_ (.ptr 0 0) [⟨151,1,.cells [.bool r0,vws r1]⟩])) N (QX N)
def L94 (N:Nat):List (Nat × Fs):=ad (L93 N) 129 ⟨[.rp [.bool,.roi .u32,.bool,.roi .u32] 0],[]⟩ [.b,.is,.b,.is] (λS_ c_ r_0 r_1 r_2 r_3=>S_ r_0 r_1 r_2 r_3 (λr0=>c_ (vws r0) [])) N (Qf N)
def L95 (N:Nat):List (Nat × Fs):=ad (L94 N) 123 ⟨[.ptr 0 0,.rp [.bool,.roi .u32,.bool,.roi .u32] 0],[some (153,1,.cells [.bool,.roi .u32,.bool,.roi .u32])]⟩ [.b,.is,.b,.is,.b,.is,.b,.is] (λS_ c_ x_0 x_1 x_2 x_3 b b_1 b_2 b_3=>S_ x_0 x_1 x_2 x_3 b b_1 b_2 b_3 (λr0 r1 r2 r3=>c_ (.ptr 0 0) [⟨153,1,.cells [.bool r0,vws r1,.bool r2,vws r3]⟩])) N (Qn N)
def L96 (N:Nat):List (Nat × Fs):=ad (L95 N) 107 ⟨[.agg [.int .i64,.int .i64,.rl RT2]],[]⟩ [.i,.i,.r RT2] (λS_ c_ m_0 m_1 m_2=>S_ m_0 m_1 m_2 (λr2=>c_ (.agg [vwi m_0,vwi m_1,.slw 0]) [⟨146,1,.own 153 RT1 r2 []⟩])) N (Xr N)
def L97 (N:Nat):List (Nat × Fs):=ao (L96 N) 129 ⟨[.ptr 0 0],[some (153,1,.cells [.bool,.roi .u32,.bool,.roi .u32])]⟩ [.b,.is,.b,.is] (λS_ c_ b b_1 b_2 b_3=>S_ b b_1 b_2 b_3 (λr0=>c_ (vws r0) [⟨153,1,.cells [.bool b,vws b_1,.bool b_2,vws b_3]⟩])) N (W5 N)
def L98 (N:Nat):List (Nat × Fs):=ad (L97 N) 111 ⟨[.ptr 0 0,.ptr 1 0,.ptr 2 0],[some (153,1,.cells [.bool,.nil,.bool,.nil]),some (153,1,.cells [.bool,.roi .u32,.bool,.roi .u32]),some (153,1,.cells [.bool,.roi .u32,.bool,.roi .u32])]⟩ [.b,.b,.b,.is,.b,.is,.b,.is,.b,.is] (λS_ c_ b b_1 b_2 b_3 b_4 b_5 b_6 b_7 b_8 b_9=>S_ b b_1 b_2 b_3 b_4 b_5 b_6 b_7 b_8 b_9 (λr0 r1 r2 r3=>c_ (.ptr 0 0) [⟨153,1,.cells [.bool r0,vws r1,.bool r2,vws r3]⟩,⟨153,1,.cells [.bool b_2,vws b_3,.bool b_4,vws b_5]⟩,⟨153,1,.cells [.bool b_6,vws b_7,.bool b_8,vws b_9]⟩])) N (Xh N)
def L99 (N:Nat):List (Nat × Fs):=ad (L98 N) 126 ⟨[.ptr 0 0,.ptr 1 0,.ptr 2 0],[some (153,1,.cells [.bool,.nil,.bool,.nil]),some (153,1,.cells [.bool,.roi .u32,.bool,.roi .u32]),some (153,1,.cells [.bool,.roi .u32,.bool,.roi .u32])]⟩ [.b,.b,.b,.is,.b,.is,.b,.is,.b,.is] (λS_ c_ b b_1 b_2 b_3 b_4 b_5 b_6 b_7 b_8 b_9=>S_ b b_1 b_2 b_3 b_4 b_5 b_6 b_7 b_8 b_9 (λr0 r1 r2 r3=>c_ (.ptr 0 0) [⟨153,1,.cells [.bool r0,vws r1,.bool r2,vws r3]⟩,⟨153,1,.cells [.bool b_2,vws b_3,.bool b_4,vws b_5]⟩,⟨153,1,.cells [.bool b_6,vws b_7,.bool b_8,vws b_9]⟩])) N (Xg N)
def XH (N:Nat):List (Nat × Fs):=ad (L99 N) 141 ⟨[.ptr 0 0,.ptr 1 0],[some (153,1,.cells [.bool,.roi .u32,.bool,.roi .u32]),some (153,1,.cells [.bool,.roi .u32,.bool,.roi .u32])]⟩ [.b,.is,.b,.is,.b,.is,.b,.is] (λS_ c_ b b_1 b_2 b_3 b_4 b_5 b_6 b_7=>S_ b b_1 b_2 b_3 b_4 b_5 b_6 b_7 (λr9 r11=>c_ (.tup [.ptr 2 0,.ptr 3 0]) [⟨153,1,.cells [.bool b,vws b_1,.bool b_2,vws b_3]⟩,⟨153,1,.cells [.bool b_4,vws b_5,.bool b_6,vws b_7]⟩,⟨151,1,.cells [.bool b,vws r9]⟩,⟨151,1,.cells [.bool b_4,vws r11]⟩])) N (Qi N)
def GW (N:Nat):List (Nat × Fs):=ad (XH N) 173 ⟨[.ptr 0 0,.ptr 1 0,.ptr 2 0,.bool],[some (151,1,.cells [.bool,.nil]),some (151,1,.cells [.bool,.roi .u32]),some (151,1,.cells [.bool,.roi .u32])]⟩ [.b,.b,.b,.is,.b,.is] (λS_ c_ turn b b_1 b_2 b_3 b_4=>S_ turn b b_1 b_2 b_3 b_4 (λr0 r1=>c_ (.ptr 0 0) [⟨151,1,.cells [.bool r0,vws r1]⟩,⟨151,1,.cells [.bool b_1,vws b_2]⟩,⟨151,1,.cells [.bool b_3,vws b_4]⟩])) N (Qo N)
def XI (N:Nat):List (Nat × Fs):=ao (GW N) 127 ⟨[.ptr 0 0,.bool,.roi .u32,.roi .u32],[some (153,1,.cells [.bool,.roi .u32,.bool,.roi .u32])]⟩ [.b,.is,.is,.b,.is,.b,.is] (λS_ c_ neg a b b_1 b_2 b_3 b_4=>S_ neg a b b_1 b_2 b_3 b_4 (λr0 r1 r2 r3=>c_ (.ptr 0 0) [⟨153,1,.cells [.bool r0,vws r1,.bool r2,vws r3]⟩])) N (QT N)
def XJ (N:Nat):List (Nat × Fs):=ad (XI N) 152 ⟨[.ptr 0 0,.int .u64],[some (204,1,.cells [.bool,.nil])]⟩ [.i,.b] (λS_ c_ n b=>S_ n b (λr0 r1=>c_ (.ptr 0 0) [⟨204,1,.cells [.bool r0,vwr r1]⟩])) N (Xc N)
def XK (N:Nat):List (Nat × Fs):=ad (XJ N) 153 ⟨[.ptr 0 0,.ptr 0 0],[some (204,1,.cells [.bool,.roi .u64])]⟩ [.b,.is] (λS_ c_ b b_1=>S_ b b_1 (λr0 r1=>c_ (.ptr 0 0) [⟨204,1,.cells [.bool r0,vwr r1]⟩])) N (Xs N)
def XL (N:Nat):List (Nat × Fs):=ad (XK N) 189 ⟨[.ptr 0 0,.int .i64],[some (204,1,.cells [.bool,.nil])]⟩ [.i,.b] (λS_ c_ n b=>S_ n b (λr0 r1=>c_ (.ptr 0 0) [⟨204,1,.cells [.bool r0,vwr r1]⟩])) N (Qa N)
def Uq (N:Nat):List (Nat × Fs):=ad (XL N) 220 ⟨[.roi .u64,.int .i64],[]⟩ [.is,.i] (λS_ c_ x from_=>S_ x from_ (λr0=>c_ (vwu r0) [])) N (Bn N)
def XM (N:Nat):List (Nat × Fs):=ad (Uq N) 233 ⟨[.roi .u64,.roi .u64],[]⟩ [.is,.is] (λS_ c_ x y=>S_ x y (λr0=>c_ (vwr r0) [])) N (QB N)
def Q6 (N:Nat):List (Nat × Fs):=ad (XM N) 221 ⟨[.agg [.int .u64,.int .u64,.int .u64,.int .u64,.bool],.roi .u64,.roi .u64],[]⟩ [.i,.i,.i,.i,.b,.is,.is] (λS_ c_ w_0 w_1 w_2 w_3 w_4 x y=>S_ w_0 w_1 w_2 w_3 w_4 x y (λr0 r1=>c_ (.tup [vwr r0,vwr r1]) [])) N (eV N)
def Ur (N:Nat):List (Nat × Fs):=ad (Q6 N) 235 ⟨[.int .u64,.int .u64,.int .u64],[]⟩ [.i,.i,.i] (λS_ c_ hi lo y=>S_ hi lo y (λr0 r1=>c_ (.tup [vwu r0,vwu r1]) [])) N (XE N)
def Us (N:Nat):List (Nat × Fs):=ad (Ur N) 223 ⟨[.roi .u64,.int .u64],[]⟩ [.is,.i] (λS_ c_ x d=>S_ x d (λr0 r1=>c_ (.tup [vwr r0,vwu r1]) [])) N (QC N)
def Ou (N:Nat):List (Nat × Fs):=ad (Us N) 236 ⟨[.sl 0,.roi .u64],[some (23,1,.ints .u64)]⟩ [.n,.n,.is,.is] (λS_ c_ u_0 u_1 v b=>S_ u_0 u_1 v b (λr0=>c_ (vwu r0) [⟨23,1,.ints .u64 b⟩])) N (V7 N)
def Ut (N:Nat):List (Nat × Fs):=ad (Ou N) 225 ⟨[.sl 0,.roi .u64],[some (23,1,.ints .u64)]⟩ [.n,.n,.is,.is] (λS_ c_ u_0 u_1 v b=>S_ u_0 u_1 v b (λr0 r1=>c_ (vwu r0) [⟨23,1,.ints .u64 r1⟩])) N (V4 N)
def Ov (N:Nat):List (Nat × Fs):=ao (Ut N) 236 ⟨[.sl 0,.sl 1],[some (23,1,.ints .u64),some (23,1,.ints .u64)]⟩ [.n,.n,.n,.n,.is,.is] (λS_ c_ u_0 u_1 v_0 v_1 b b_1=>S_ u_0 u_1 v_0 v_1 b b_1 (λr0=>c_ (vwu r0) [⟨23,1,.ints .u64 b⟩,⟨23,1,.ints .u64 b_1⟩])) N (Uk N)
def Q7 (N:Nat):List (Nat × Fs):=ao (Ov N) 225 ⟨[.sl 0,.sl 1],[some (23,1,.ints .u64),some (23,1,.ints .u64)]⟩ [.n,.n,.n,.n,.is,.is] (λS_ c_ u_0 u_1 v_0 v_1 b b_1=>S_ u_0 u_1 v_0 v_1 b b_1 (λr0 r1=>c_ (vwu r0) [⟨23,1,.ints .u64 r1⟩,⟨23,1,.ints .u64 b_1⟩])) N (Qb N)
def Ow (N:Nat):List (Nat × Fs):=ad (Q7 N) 226 ⟨[.sl 0,.int .u64],[some (23,1,.ints .u64)]⟩ [.n,.n,.i,.is] (λS_ c_ x_0 x_1 n b=>S_ x_0 x_1 n b (λr0 r1=>c_ (.tup [vwr r0,.bool r1]) [⟨23,1,.ints .u64 b⟩])) N (M0 N)
def KQ (N:Nat):List (Nat × Fs):=ad (Ow N) 188 ⟨[.roi .u64,.int .u64],[]⟩ [.is,.i] (λS_ c_ x n=>S_ x n (c_ (.nil) []) (λr0 r1=>c_ (.sl 0 0 r0) [⟨23,1,.ints .u64 r1⟩])) N (Xj N)
def DA (N:Nat):List (Nat × Fs):=ad (Ow N) 210 ⟨[.roi .u64,.roi .u64],[]⟩ [.is,.is] (λS_ c_ x y=>S_ x y (λr0 r1=>c_ (.tup [vwr r0,vwr r1]) [])) N (GQ5 N)
def KM (N:Nat):List (Nat × Fs):=ad (DA N) 208 ⟨[.roi .u64,.roi .u64],[]⟩ [.is,.is] (λS_ c_ x y=>S_ x y (λr0=>c_ (vwr r0) [])) N (GQ9 N)
def XN (N:Nat):List (Nat × Fs):=ad (KM N) 190 ⟨[.ptr 0 0,.bool,.roi .u64,.roi .u64],[some (210,1,.cells [.bool,.nil,.bool,.nil])]⟩ [.b,.is,.is,.b,.b] (λS_ c_ neg a b b_1 b_2=>S_ neg a b b_1 b_2 (λr0 r1 r2 r3=>c_ (.ptr 0 0) [⟨210,1,.cells [.bool r0,vwr r1,.bool r2,vwr r3]⟩])) N (QS N)
def XO (N:Nat):List (Nat × Fs):=ad (XN N) 191 ⟨[.ptr 0 0,.bool,.roi .u64,.slw 1],[some (210,1,.cells [.bool,.nil,.bool,.nil]),some (23,1,.ints .u64)]⟩ [.b,.is,.b,.b,.is] (λS_ c_ neg a b b_1 b_2=>S_ neg a b b_1 b_2 (λr0 r2=>c_ (.ptr 0 0) [⟨210,1,.cells [.bool r0,vwr a,.bool r2,.slw 1]⟩,⟨23,1,.ints .u64 b_2⟩])) N (Qh N)
def XP (N:Nat):List (Nat × Fs):=ao (XO N) 191 ⟨[.ptr 0 0,.bool,.roi .u64,.roi .u64],[some (210,1,.cells [.bool,.nil,.bool,.nil])]⟩ [.b,.is,.is,.b,.b] (λS_ c_ neg a b b_1 b_2=>S_ neg a b b_1 b_2 (λr0 r2=>c_ (.ptr 0 0) [⟨210,1,.cells [.bool r0,vwr a,.bool r2,vwr b]⟩])) N (Xq N)
def KN (N:Nat):List (Nat × Fs):=ad (XP N) 213 ⟨[.ptr 0 0,.rp [.bool,.roi .u64,.bool,.roi .u64] 0],[some (210,1,.cells [.bool,.nil,.bool,.nil])]⟩ [.b,.is,.b,.is,.b,.b] (λS_ c_ x_0 x_1 x_2 x_3 b b_1=>S_ x_0 x_1 x_2 x_3 b b_1 (λr0 r1 r2 r3=>c_ (.ptr 0 0) [⟨210,1,.cells [.bool r0,vwr r1,.bool r2,vwr r3]⟩])) N (Qk N)
def Uu (N:Nat):List (Nat × Fs):=ad (KN N) 229 ⟨[.roi .u64,.roi .u64],[]⟩ [.is,.is] (λS_ c_ x y=>S_ x y (λr0=>c_ (vwr r0) [])) N (QY N)
def XQ (N:Nat):List (Nat × Fs):=ad (Uu N) 238 ⟨[.roi .u64,.roi .u64],[]⟩ [.is,.is] (λS_ c_ x y=>S_ x y (λr0=>c_ (vwr r0) [])) N (Bm N)
def XR (N:Nat):List (Nat × Fs):=ad (XQ N) 230 ⟨[.ptr 0 0,.ptr 0 0,.bool,.roi .u64],[some (204,1,.cells [.bool,.roi .u64])]⟩ [.b,.is,.b,.is] (λS_ c_ neg y b b_1=>S_ neg y b b_1 (λr0 r1=>c_ (.ptr 0 0) [⟨204,1,.cells [.bool r0,vwr r1]⟩])) N (Xv N)
def XS (N:Nat):List (Nat × Fs):=ad (XR N) 212 ⟨[.ptr 0 0,.rp [.bool,.roi .u64,.bool,.roi .u64] 0,.ptr 1 0],[some (210,1,.cells [.bool,.nil,.bool,.nil]),some (210,1,.cells [.bool,.roi .u64,.bool,.roi .u64])]⟩ [.b,.is,.b,.is,.b,.b,.b,.is,.b,.is] (λS_ c_ x_0 x_1 x_2 x_3 b b_1 b_2 b_3 b_4 b_5=>S_ x_0 x_1 x_2 x_3 b b_1 b_2 b_3 b_4 b_5 (λr0 r1 r2 r3=>c_ (.ptr 0 0) [⟨210,1,.cells [.bool r0,vwr r1,.bool r2,vwr r3]⟩,⟨210,1,.cells [.bool b_2,vwr b_3,.bool b_4,vwr b_5]⟩])) N (Xt N)
def XT (N:Nat):List (Nat × Fs):=ad (XS N) 193 ⟨[.ptr 0 0,.rp [.bool,.roi .u64,.bool,.roi .u64] 0,.rp [.bool,.roi .u64,.bool,.roi .u64] 0],[some (210,1,.cells [.bool,.nil,.bool,.nil])]⟩ [.b,.is,.b,.is,.b,.is,.b,.is,.b,.b] (λS_ c_ x_0 x_1 x_2 x_3 y_0 y_1 y_2 y_3 b b_1=>S_ x_0 x_1 x_2 x_3 y_0 y_1 y_2 y_3 b b_1 (λr0 r1 r2 r3=>c_ (.ptr 0 0) [⟨210,1,.cells [.bool r0,vwr r1,.bool r2,vwr r3]⟩])) N (Qt N)
def XU (N:Nat):List (Nat × Fs):=ad (XT N) 216 ⟨[.ptr 0 0,.bool,.roi .u64,.roi .u64,.roi .u64,.roi .u64],[some (210,1,.cells [.bool,.nil,.bool,.nil])]⟩ [.b,.is,.is,.is,.is,.b,.b] (λS_ c_ neg a b c d b_1 b_2=>S_ neg a b c d b_1 b_2 (λr0 r1 r2 r3=>c_ (.ptr 0 0) [⟨210,1,.cells [.bool r0,vwr r1,.bool r2,vwr r3]⟩])) N (Xn N)
def XV (N:Nat):List (Nat × Fs):=ad (XU N) 199 ⟨[.ptr 0 0,.rp [.bool,.roi .u64,.bool,.roi .u64] 0,.rp [.bool,.roi .u64,.bool,.roi .u64] 0],[some (210,1,.cells [.bool,.nil,.bool,.nil])]⟩ [.b,.is,.b,.is,.b,.is,.b,.is,.b,.b] (λS_ c_ x_0 x_1 x_2 x_3 y_0 y_1 y_2 y_3 b b_1=>S_ x_0 x_1 x_2 x_3 y_0 y_1 y_2 y_3 b b_1 (λr0 r1 r2 r3=>c_ (.ptr 0 0) [⟨210,1,.cells [.bool r0,vwr r1,.bool r2,vwr r3]⟩])) N (Qs N)
def XW (N:Nat):List (Nat × Fs):=ad (XV N) 215 ⟨[.ptr 0 0,.rp [.bool,.roi .u64,.bool,.roi .u64] 0,.rp [.bool,.roi .u64,.bool,.roi .u64] 0],[some (210,1,.cells [.bool,.nil,.bool,.nil])]⟩ [.b,.is,.b,.is,.b,.is,.b,.is,.b,.b] (λS_ c_ x_0 x_1 x_2 x_3 y_0 y_1 y_2 y_3 b b_1=>S_ x_0 x_1 x_2 x_3 y_0 y_1 y_2 y_3 b b_1 (λr0 r1 r2 r3=>c_ (.ptr 0 0) [⟨210,1,.cells [.bool r0,vwr r1,.bool r2,vwr r3]⟩])) N (Qr N)
def Uv (N:Nat):List (Nat × Fs):=ao (XW N) 212 ⟨[.ptr 0 0,.rp [.bool,.roi .u64,.bool,.roi .u64] 0,.rp [.bool,.roi .u64,.bool,.roi .u64] 0],[some (210,1,.cells [.bool,.nil,.bool,.nil])]⟩ [.b,.is,.b,.is,.b,.is,.b,.is,.b,.b] (λS_ c_ x_0 x_1 x_2 x_3 y_0 y_1 y_2 y_3 b b_1=>S_ x_0 x_1 x_2 x_3 y_0 y_1 y_2 y_3 b b_1 (λr0 r1 r2 r3=>c_ (.ptr 0 0) [⟨210,1,.cells [.bool r0,vwr r1,.bool r2,vwr r3]⟩])) N (Uj N)
def Uw (N:Nat):List (Nat × Fs):=ad (Uv N) 25 ⟨[.int .i64],[]⟩ [.i] (λS_ c_ n=>S_ n (λr2=>c_ (.agg [vwi n,vwi n,.slw 0]) [⟨33,1,.flts r2⟩])) N (zy N)
def XX (N:Nat):List (Nat × Fs):=ad (Uw N) 28 ⟨[.rof],[]⟩ [.fs] (λS_ c_ a=>S_ a (λr0=>c_ (.bool r0) [])) N (GQ8 N)
def XY (N:Nat):List (Nat × Fs):=upM Pg ab N fmd (XX N) [196,197,164,160,157,156,155,142,167,169,165,166,29,69,103]
def XZ (N:Nat):List (Nat × Fs):=ad (XY N) 130 ⟨[.int .u64,.agg [.int .u64,.int .i64,.int .i64]],[]⟩ [.i,.i,.i,.i] (λS_ c_ b f_0 f_1 f_2=>S_ b f_0 f_1 f_2 (λr0 r1 r2=>c_ (.tup [.bool r0,vwi r1,vwu r2]) [])) N (Xz N)
def Ux (N:Nat):List (Nat × Fs):=ad (XZ N) 114 ⟨[.int .u64,.agg [.int .u64,.int .i64,.int .i64]],[]⟩ [.i,.i,.i,.i] (λS_ c_ b f_0 f_1 f_2=>S_ b f_0 f_1 f_2 (λr0=>c_ (vwi r0) [])) N (Xy N)
def X0 (N:Nat):List (Nat × Fs):=ad (Ux N) 78 ⟨[.rof],[]⟩ [.fs] (λS_ c_ l=>S_ l (λr0=>c_ (.bool r0) [])) N (P9 N)
def Q8 (N:Nat):List (Nat × Fs):=ad (X0 N) 84 ⟨[.agg [.int .i64,.int .i64,.rof]],[]⟩ [.i,.i,.fs] (λS_ c_ m_0 m_1 m_2=>S_ m_0 m_1 m_2 (λr0=>c_ (vwi r0) [])) N (zx N)
def X1 (N:Nat):List (Nat × Fs):=ad (Q8 N) 49 ⟨[.agg [.int .i64,.int .i64,.rof]],[]⟩ [.i,.i,.fs] (λS_ c_ m_0 m_1 m_2=>S_ m_0 m_1 m_2 (λr0=>c_ (vwi r0) [])) N (P_ N)
def X2 (N:Nat):List (Nat × Fs):=ad (X1 N) 138 ⟨[.agg [.ptr 0 0,.int .i64]],[some (151,1,.cells [.bool,.roi .u32])]⟩ [.i,.b,.is] (λS_ c_ x b b_1=>S_ x b b_1 (λr2 r3 r4 r5=>c_ (.ptr 1 0) [⟨151,1,.cells [.bool b,vws b_1]⟩,⟨153,1,.cells [.bool r2,vws r3,.bool r4,vws r5]⟩])) N (Qj N)
def Uy (N:Nat):List (Nat × Fs):=ad (X2 N) 125 ⟨[.ptr 0 0,.ptr 0 0,.ptr 1 0],[some (153,1,.cells [.bool,.roi .u32,.bool,.roi .u32]),some (153,1,.cells [.bool,.roi .u32,.bool,.roi .u32])]⟩ [.b,.is,.b,.is,.b,.is,.b,.is] (λS_ c_ b b_1 b_2 b_3 b_4 b_5 b_6 b_7=>S_ b b_1 b_2 b_3 b_4 b_5 b_6 b_7 (λr0 r1 r2 r3=>c_ (.ptr 0 0) [⟨153,1,.cells [.bool r0,vws r1,.bool r2,vws r3]⟩,⟨153,1,.cells [.bool b_4,vws b_5,.bool b_6,vws b_7]⟩])) N (Xo N)
def Ox (N:Nat):List (Nat × Fs):=ad (Uy N) 110 ⟨[.agg [.int .i64,.int .i64,.slw 0],.int .i64,.int .i64,.ptr 1 0],[some (146,1,.own 153 RT1),some (153,1,.cells [.bool,.roi .u32,.bool,.roi .u32])]⟩ [.i,.i,.i,.i,.r RT1,.b,.is,.b,.is] (λS_ c_ m_0 m_1 i k_ b b_1 b_2 b_3 b_4=>S_ m_0 m_1 i k_ b b_1 b_2 b_3 b_4 (λr0=>c_ (.tup []) [⟨146,1,.own 153 RT1 r0 []⟩,⟨153,1,.cells [.bool b_1,vws b_2,.bool b_3,vws b_4]⟩])) N (Xa N)
def Q9 (N:Nat):List (Nat × Fs):=ad (Ox N) 93 ⟨[.agg [.int .i64,.int .i64,.rl RT2]],[]⟩ [.i,.i,.r RT2] (λS_ c_ m_0 m_1 m_2=>S_ m_0 m_1 m_2 (λr0=>c_ (vwi r0) [])) N (Xx N)
def VE:FnSh:=⟨[.flt],[]⟩
def MN (ag8:KR):SPT:=λa_ c_=>match a_ with
 | [.fl x]=>ag8 x (λr0=>c_ (vwi r0) [])
 | _=>false
abbrev VJ (ag8:KR):Fs:=lA VE (MN ag8)
def Uz (N:Nat):List (Nat × Fs):=(99,(VJ (JZ N)))::Q9 N
def TS:FnSh:=⟨[.fb],[]⟩
def T0 (aif:V_):SPT:=λa_ c_=>match a_ with
 | [.nat x]=>aif x (λr0=>c_ (vwi r0) [])
 | _=>false
abbrev W1 (aif:V_):Fs:=lA TS (T0 aif)
def X3 (N:Nat):List (Nat × Fs):=ad (Uz N) 72 ⟨[.rof],[]⟩ [.fs] (λS_ c_ l=>S_ l (λr0=>c_ (.bool r0) [])) N (P8 N)
def Q_ (N:Nat):List (Nat × Fs):=ad (X3 N) 71 ⟨[.agg [.int .i64,.int .i64,.rof]],[]⟩ [.i,.i,.fs] (λS_ c_ m_0 m_1 m_2=>S_ m_0 m_1 m_2 (λr0=>c_ (vwi r0) [])) N (XF N)
def VF:FnSh:=⟨[.flt,.flt],[]⟩
def MP (ag_:KS):SPT:=λa_ c_=>match a_ with
 | [.fl a,.fl b]=>ag_ a b (λr0=>c_ (.bool r0) [])
 | _=>false
abbrev VK (ag_:KS):Fs:=lA VF (MP ag_)
def Ra (N:Nat):List (Nat × Fs):=(88,(VK (J4 N)))::Q_ N
def TT:FnSh:=⟨[.fb,.fb],[]⟩
def T1 (aig:Wa):SPT:=λa_ c_=>match a_ with
 | [.nat a,.nat b]=>aig a b (λr0=>c_ (.bool r0) [])
 | _=>false
abbrev W2 (aig:Wa):Fs:=lA TT (T1 aig)
def KO (N:Nat):List (Nat × Fs):=ad (Ra N) 58 ⟨[.agg [.int .i64,.int .i64,.rof]],[]⟩ [.i,.i,.fs] (λS_ c_ m_0 m_1 m_2=>S_ m_0 m_1 m_2 (λr0=>c_ (.bool r0) [])) N (Xe N)
def Rb (N:Nat):List (Nat × Fs):=ad (KO N) 184 ⟨[.int .u64,.agg [.int .u64,.int .i64,.int .i64]],[]⟩ [.i,.i,.i,.i] (λS_ c_ b f_0 f_1 f_2=>S_ b f_0 f_1 f_2 (λr0 r1 r2 r3=>c_ (.tup [.agg [.bool r0,vwu r1,vwi r2],vwi r3]) [])) N (QU N)
def X4 (N:Nat):List (Nat × Fs):=ad (Rb N) 133 ⟨[.agg [.int .i64,.int .i64,.slw 0]],[some (179,1,.recs RT3)]⟩ [.i,.i,.r RT3] (λS_ c_ g_0 g_1 b=>S_ g_0 g_1 b (c_ (.tup []) [⟨179,1,.recs RT3 b⟩])) N (cT N)
def UA (N:Nat):List (Nat × Fs):=ad (X4 N) 198 ⟨[.int .i64,.int .i64],[]⟩ [.i,.i] (λS_ c_ a b=>S_ a b (λr0 r1 r2 r3=>c_ (.ptr 0 0) [⟨210,1,.cells [.bool r0,vwr r1,.bool r2,vwr r3]⟩])) N (uo N)
def X5 (N:Nat):List (Nat × Fs):=ad (UA N) 162 ⟨[.agg [.int .i64,.int .i64,.slw 0],.int .i64,.int .i64,.agg [.rp [.bool,.roi .u64,.bool,.roi .u64] 0]],[some (179,1,.recs RT3)]⟩ [.i,.i,.i,.i,.b,.is,.b,.is,.r RT3] (λS_ c_ g_0 g_1 i k_ x_0 x_1 x_2 x_3 b=>S_ g_0 g_1 i k_ x_0 x_1 x_2 x_3 b (λr0=>c_ (.tup []) [⟨179,1,.recs RT3 r0⟩])) N (f7 N)
def X6 (N:Nat):List (Nat × Fs):=ad (X5 N) 76 ⟨[.int .i64,.rof,.flt],[]⟩ [.i,.fs,.f] (λS_ c_ n h r=>S_ n h r (λr0=>c_ (vwi r0) [])) N (s_ N)
def X7 (N:Nat):List (Nat × Fs):=ad (X6 N) 57 ⟨[.agg [.int .i64,.int .i64,.rof],.int .i64],[]⟩ [.i,.i,.fs,.i] (λS_ c_ m_0 m_1 m_2 n=>S_ m_0 m_1 m_2 n (λr0=>c_ (vwi r0) [])) N (pk N)
def X8 (N:Nat):List (Nat × Fs):=upM Pg ab N fmd (X7 N) [163,151,121,83]
def UB (N:Nat):List (Nat × Fs):=ad (X8 N) 66 ⟨[.agg [.rof,.int .i64,.int .i64,.rof]],[]⟩ [.fs,.i,.i,.fs] (λS_ c_ s_0 s_1 s_2 s_3=>S_ s_0 s_1 s_2 s_3 (λr0=>c_ (vwi r0) [])) N (ww N)
def KP (N:Nat):List (Nat × Fs):=ad (UB N) 106 ⟨[.agg [.int .i64,.int .i64,.rof]],[]⟩ [.i,.i,.fs] (λS_ c_ m_0 m_1 m_2=>S_ m_0 m_1 m_2 (λr2=>c_ (.agg [vwi m_0,vwi m_1,.slw 0]) [⟨146,1,.own 153 RT1 r2 []⟩])) N (QN N)
def UC (N:Nat):List (Nat × Fs):=ad (KP N) 132 ⟨[.flt],[]⟩ [.f] (λS_ c_ x=>S_ x (λr0 r1 r2 r3=>c_ (.agg [.rp [.bool r0,vwr r1,.bool r2,vwr r3] 0]) [])) N (dX N)
def Rd (N:Nat):List (Nat × Fs):=ad (UC N) 117 ⟨[.agg [.int .i64,.int .i64,.rof]],[]⟩ [.i,.i,.fs] (λS_ c_ m_0 m_1 m_2=>S_ m_0 m_1 m_2 (λr2=>c_ (.agg [vwi m_0,vwi m_1,.slw 0]) [⟨179,1,.recs RT3 r2⟩])) N (ki N)
def X9 (N:Nat):List (Nat × Fs):=ad (Rd N) 134 ⟨[.agg [.int .i64,.int .i64,.slw 0]],[some (179,1,.recs RT3)]⟩ [.i,.i,.r RT3] (λS_ c_ g_0 g_1 b=>S_ g_0 g_1 b (λr0 r1=>c_ (vwi r0) [⟨179,1,.recs RT3 r1⟩])) N (dw N)
def X_ (N:Nat):List (Nat × Fs):=upM Pg ab N fmd (X9 N) [118,67,92]
def Ya (N:Nat):List (Nat × Fs):=ad (X_ N) 24 ⟨[.agg [.rof,.int .i64,.int .i64,.rof]],[]⟩ [.fs,.i,.i,.fs] (λS_ c_ s_0 s_1 s_2 s_3=>S_ s_0 s_1 s_2 s_3 (λr0=>c_ (vwi r0) [])) N (wt N)
def Yb (N:Nat):List (Nat × Fs):=ad (Ya N) 100 ⟨[.agg [.int .i64,.int .i64,.rof]],[]⟩ [.i,.i,.fs] (λS_ c_ m_0 m_1 m_2=>S_ m_0 m_1 m_2 (λr0 r1=>c_ (.tup [vwi r0,vwi r1]) [])) N (li N)
def Yc (N:Nat):List (Nat × Fs):=upM Pg ab N fmd (Yb N) [73]
def UD (N:Nat):List (Nat × Fs):=ad (Yc N) 32 ⟨[.agg [.rof,.int .i64,.int .i64,.rof]],[]⟩ [.fs,.i,.i,.fs] (λS_ c_ s_0 s_1 s_2 s_3=>S_ s_0 s_1 s_2 s_3 (λr0=>c_ (vwi r0) [])) N (q7 N)
def Yd (N:Nat):List (Nat × Fs):=ad (UD N) 37 ⟨[.agg [.rof,.int .i64,.int .i64,.rof],.rof,.flt],[]⟩ [.fs,.i,.i,.fs,.fs,.f] (λS_ c_ s_0 s_1 s_2 s_3 h r=>S_ s_0 s_1 s_2 s_3 h r (λr0=>c_ (.tup [.val (.pointer none),vwi r0]) []) (λr0 r1 r8 r9 r10=>c_ (.tup [.ptr 0 0,vwi r0]) [⟨85,1,.cells [.bool r1,.rof s_0,vwi s_1,vwi s_2,.rof s_3,.rof h,.flt r,.flt r8,.slw 1,.nil,.flt r9]⟩,⟨33,1,.flts r10⟩])) N (nx N)
def Bs (N:Nat):List (Nat × Fs):=ad (Yd N) 65 ⟨[.ptr 0 0,.slw 1,.agg [.int .i64,.int .i64,.slw 2]],[some (85,1,.cells [.bool,.rof,.int .i64,.int .i64,.rof,.rof,.flt,.flt,.slw 3,.slw 4,.flt]),some (33,1,.flts),some (33,1,.flts),some (33,1,.flts),some (33,1,.flts)]⟩ [.i,.i,.b,.fs,.i,.i,.fs,.fs,.f,.f,.f,.fs,.fs,.fs,.fs] (λS_ c_ p_0 p_1 b b_1 b_2 b_3 b_4 b_5 b_6 b_7 b_8 b_9 acp acI acR=>S_ p_0 p_1 b b_1 b_2 b_3 b_4 b_5 b_6 b_7 b_8 b_9 acp acI acR (λr0 r1 r2=>c_ (.tup [.agg [.nil,vwi r0,vwi r1,.nil],vwi r2]) [⟨85,1,.cells [.bool b,.rof b_1,vwi b_2,vwi b_3,.rof b_4,.rof b_5,.flt b_6,.flt b_7,.slw 3,.slw 4,.flt b_8]⟩,⟨33,1,.flts b_9⟩,⟨33,1,.flts acp⟩,⟨33,1,.flts acI⟩,⟨33,1,.flts acR⟩]) (λr2=>c_ (.tup [.agg [.slw 1,vwi p_0,vwi p_1,.slw 2],vwi r2]) [⟨85,1,.cells [.bool b,.rof b_1,vwi b_2,vwi b_3,.rof b_4,.rof b_5,.flt b_6,.flt b_7,.slw 3,.slw 4,.flt b_8]⟩,⟨33,1,.flts b_9⟩,⟨33,1,.flts acp⟩,⟨33,1,.flts acI⟩,⟨33,1,.flts acR⟩])) N (cS N)
def Ye (N:Nat):List (Nat × Fs):=ad (Bs N) 41 ⟨[.agg [.rof,.int .i64,.int .i64,.rof],.rof,.flt,.flt,.fn 42 []],[]⟩ [.fs,.i,.i,.fs,.fs,.f,.f] (λS_ c_ s_0 s_1 s_2 s_3 h r z=>S_ s_0 s_1 s_2 s_3 h r z (λr0 r1 r2 r3 r4 r5=>c_ (.tup [.agg [.nil,vwi r0,vwi r1,.nil],.agg [.flt r2,.flt r3,.flt r4,.nil],vwi r5]) []) (λr0 r1 r2 r3 r4 r5 r6=>c_ (.tup [.agg [.nil,vwi r0,vwi r1,.nil],.agg [.flt r2,.flt r3,.flt r4,.slw 0],vwi r5]) [⟨33,1,.flts r6⟩]) (λr0 r1 r2 r3 r4 r5 r6 r7 r8=>c_ (.tup [.agg [.slw 0,vwi r0,vwi r1,.slw 1],.agg [.flt r2,.flt r3,.flt r4,.slw 2],vwi r5]) [⟨33,1,.flts r6⟩,⟨33,1,.flts r7⟩,⟨33,1,.flts r8⟩])) N (eS N)
def Yf (N:Nat):List (Nat × Fs):=ad (Ye N) 14 ⟨[.agg [.rof,.int .i64,.int .i64,.rof],.rof,.flt,.flt],[]⟩ [.fs,.i,.i,.fs,.fs,.f,.f] (λS_ c_ s_0 s_1 s_2 s_3 h r z=>S_ s_0 s_1 s_2 s_3 h r z (λr0 r1 r2 r3 r4 r5=>c_ (.tup [.agg [.nil,vwi r0,vwi r1,.nil],.agg [.flt r2,.flt r3,.flt r4,.nil],vwi r5]) []) (λr0 r1 r2 r3 r4 r5 r6=>c_ (.tup [.agg [.nil,vwi r0,vwi r1,.nil],.agg [.flt r2,.flt r3,.flt r4,.slw 0],vwi r5]) [⟨33,1,.flts r6⟩]) (λr0 r1 r2 r3 r4 r5 r6 r7 r8=>c_ (.tup [.agg [.slw 0,vwi r0,vwi r1,.slw 1],.agg [.flt r2,.flt r3,.flt r4,.slw 2],vwi r5]) [⟨33,1,.flts r6⟩,⟨33,1,.flts r7⟩,⟨33,1,.flts r8⟩])) N (pj N)
def Yg (N:Nat):List (Nat × Fs):=ad (Yf N) 20 ⟨[],[]⟩ [] (λS_ c_=>S_ (λr0=>c_ (.bool r0) [])) N (GQ0 N)
def UE (N:Nat):List (Nat × Fs):=ao (Yg N) 65 ⟨[.ptr 0 0,.slw 1,.agg [.int .i64,.int .i64,.slw 2]],[some (83,1,.cells [.bool]),some (33,1,.flts),some (33,1,.flts)]⟩ [.i,.i,.b,.fs,.fs] (λS_ c_ p_0 p_1 b b_1 b_2=>S_ p_0 p_1 b b_1 b_2 (λr0 r1 r2=>c_ (.tup [.agg [.nil,vwi r0,vwi r1,.nil],vwi r2]) [⟨83,1,.cells [.bool b]⟩,⟨33,1,.flts b_1⟩,⟨33,1,.flts b_2⟩]) (λr2=>c_ (.tup [.agg [.slw 1,vwi p_0,vwi p_1,.slw 2],vwi r2]) [⟨83,1,.cells [.bool b]⟩,⟨33,1,.flts b_1⟩,⟨33,1,.flts b_2⟩])) N (gE N)
def vX (N:Nat):List (Nat × Fs):=ad (UE N) 22 ⟨[.agg [.rof,.int .i64,.int .i64,.rof],.agg [.int .i64,.int .i64,.rof],.agg [.int .i64,.int .i64,.rof]],[]⟩ [.fs,.i,.i,.fs,.i,.i,.fs,.i,.i,.fs] (λS_ c_ s_0 s_1 s_2 s_3 f_0 f_1 f_2 q_0 q_1 q_2=>S_ s_0 s_1 s_2 s_3 f_0 f_1 f_2 q_0 q_1 q_2 (λr0 r1 r2=>c_ (.tup [.agg [.nil,vwi r0,vwi r1,.nil],vwi r2]) []) (λr0 r1 r2 r3 r4=>c_ (.tup [.agg [.slw 0,vwi r0,vwi r1,.slw 1],vwi r2]) [⟨33,1,.flts r3⟩,⟨33,1,.flts r4⟩])) N (nw N)
def GI:FnSh:=⟨[.roi .u64,.int .i64,.roi .u64,.int .u64,.int .u64],[]⟩
end
theorem Sa (w:World) (v:Value):Calls Tryz.prog 116 #[.nilIface,v] w λe w'=>e=.returned v/\w'=w:=
 UL (P:=Tryz.prog) (fc:=116) (fn:=Tryz.f116) (by kernel_rfl) (by kernel_rfl) (by kernel_rfl) rfl rfl rfl rfl rfl rfl rfl rfl rfl rfl rfl rfl rfl rfl rfl rfl rfl rfl rfl (λ_=>rfl) (λ_=>by kernel_rfl) w v
theorem ZD:FP Tryz.prog 115:=
 R4 (P:=Tryz.prog) (g:=115) (fc:=116) (fg:=Tryz.f115) (ff:=Tryz.f116) (by kernel_rfl) (by kernel_rfl) (by kernel_rfl) (by kernel_rfl) rfl (by kernel_rfl) (by kernel_rfl) (by kernel_rfl) (by kernel_rfl) (by kernel_rfl) rfl rfl rfl rfl rfl rfl rfl rfl rfl rfl rfl (by kernel_rfl) (by kernel_rfl) Sa
theorem hD_:HD Tryz.prog ab:=by
 intro g hg h;have e:g=115:=by have h:=JE h; simp at h; omega
 rcases e with rfl
 exact ZD
end Go.Proofs.YteifemaagdeomaaGreatDoor
end
