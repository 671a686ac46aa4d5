/- The program's functions and their ties. Conditions: none. -/
import Derived.Test.YtbiingchhnlcnaaGreatDoorGp
import Derived.Test.YtbiingchhnlcnaaGreatDoorMachT
import Derived.Test.YtbiingchhnlcnaaGreatDoorProg
set_option linter.unusedVariables false
section
namespace Go.Proofs.YtbiingchhnlcnaaGreatDoor
open Go Go.Mach Go.Proofs
set_option maxRecDepth 50000
abbrev KV:=V->List Blk->Bool
abbrev SPT:=List Atom->KV->Bool
noncomputable abbrev Pg:Program:=Tryz.prog
def vqs:Nat → List V → List V
  | 0,t=>t
  | n+1,t=>.any::vqs n t
abbrev vwi (z:Int):V:=.int .i64 z
abbrev vwu (z:Int):V:=.int .u64 z
abbrev vwv (z:Int):V:=.int .u32 z
abbrev vwr (l:LI):V:=.roi .u64 l
abbrev vws (l:LI):V:=.roi .u32 l
theorem WE {p:Nat → Prop} (h:p 0):∀ i,i<1 → p i
 | 0,_=>h
 | _+1,g=>by omega
theorem VV {p:Nat → Prop} (h:p 0) (h1:p 1):∀ i,i<2 → p i
 | 0,_=>h
 | 1,_=>h1
 | _+2,g=>by omega
def sqs:Nat → List Sh → List Sh
 | 0,t=>t
 | n+1,t=>.any::sqs n t
noncomputable def km:Nat->Bool:=O3 [88,108,175,166,56,216,179,244,255,7,59,53,52,47,43,42,41,115,135,112,114,132,134,155,126,189,158,127,100,185,251,245,170,211,212,1000257,1000231,1000230,1000089,2000097,3000041,3000067,3000046,4000138,4000078]
abbrev LT:=List (Nat × Fs)
abbrev TbS (A B:Nat->LT):Prop:=∀ N,OKL Pg km (A N)->OKL Pg km (B N)
noncomputable def fmd:Nat->Nat:=λg=>(cond (O3 [113,150,151,152,153,154,166,167,168,179,180,181,188,194,196,198,226,241,251] g) 1 (cond (O3 [156,159,160,190,191] g) 2 0))
noncomputable section
def L0 (N_:Nat):LT:=[]
def VJ:FnSh:=⟨[.fb],[]⟩
def Sd (ai9:NG):SPT:=λa_ c_=>match a_ with
 | [.nat a0]=>ai9 a0 (λr0=>c_ (vwu r0) [])
 | _=>false
abbrev VW (ai9:NG):Fs:=jg VJ (Sd ai9)
def L1 (N_:Nat):LT:=(93,(VW (EQ N_)))::L0 N_
def Rj:FnSh:=⟨[.int .u64],[]⟩
def PP (aij:HB):SPT:=λa_ c_=>match a_ with
 | [.int a0]=>aij a0 (λr0=>c_ (.flt r0) [])
 | _=>false
abbrev Rp (aij:HB):Fs:=jg Rj (PP aij)
def L2 (N_:Nat):LT:=(29,(Rp (xz N_)))::L1 N_
def L3 (N_:Nat):LT:=ad (L2 N_) 12 ⟨[.roi .u64],[]⟩ [.is] (λS_ c_ l=>S_ l (λr0=>c_ (.slw 0) [⟨47,1,.flts r0⟩])) N_ (vS N_)
def Kp:FnSh:=⟨[.flt],[]⟩
def PO (aii:HA):SPT:=λa_ c_=>match a_ with
 | [.fl a0]=>aii a0 (λr0=>c_ (vwu r0) [])
 | _=>false
abbrev Ro (aii:HA):Fs:=jg Kp (PO aii)
def L4 (N_:Nat):LT:=(93,(EJ (Ro (tY N_)) (ofL (L3 N_) 93) Kp))::L3 N_
def L5 (N_:Nat):LT:=ad (L4 N_) 215 ⟨[.int .u64],[]⟩ [.i] (λS_ c_ x=>S_ x (λr0=>c_ (vwi r0) [])) N_ (GQ8 N_)
def L6 (N_:Nat):LT:=ad (L5 N_) 216 ⟨[.slw 0],[some (43,1,.ints .u64)]⟩ [.is] (λS_ c_ b=>S_ b (λr0=>c_ (.sl 0 0 r0) [⟨43,1,.ints .u64 b⟩])) N_ (SA N_)
def L7 (N_:Nat):LT:=ad (L6 N_) 182 ⟨[.roi .u64,.int .u64],[]⟩ [.is,.i] (λS_ c_ x n=>S_ x n (λr0=>c_ (vwr r0) [])) N_ (vO N_)
def L8 (N_:Nat):LT:=ad (L7 N_) 218 ⟨[.roi .u64,.roi .u64],[]⟩ [.is,.is] (λS_ c_ x y=>S_ x y (λr0=>c_ (vwi r0) [])) N_ (MU N_)
def L9 (N_:Nat):LT:=ad (L8 N_) 250 ⟨[.int .u64],[]⟩ [.i] (λS_ c_ x=>S_ x (λr0=>c_ (vwi r0) [])) N_ (SP N_)
def L10 (N_:Nat):LT:=ad (L9 N_) 237 ⟨[.roi .u64],[]⟩ [.is] (λS_ c_ x=>S_ x (λr0=>c_ (vwi r0) [])) N_ (qD N_)
def L11 (N_:Nat):LT:=ad (L10 N_) 238 ⟨[.int .u64,.int .u64],[]⟩ [.i,.i] (λS_ c_ x y=>S_ x y (λr0 r1 r2 r3 r4=>c_ (.agg [vwu r0,vwu r1,vwu r2,vwu r3,.bool r4]) [])) N_ (yK N_)
def L12 (N_:Nat):LT:=ad (L11 N_) 246 ⟨[.int .u64,.int .u64],[]⟩ [.i,.i] (λS_ c_ x y=>S_ x y (λr0 r1=>c_ (.tup [vwu r0,vwu r1]) [])) N_ (MQ N_)
def WU:FnSh:=⟨[.int .u64,.int .u64,.int .u64],[]⟩
def WY (SQ2:US):SPT:=λa_ c_=>match a_ with
 | [.int a0,.int a1,.int a2]=>SQ2 a0 a1 a2 (λr0 r1=>c_ (.tup [vwu r0,vwu r1]) [])
 | _=>false
abbrev FQ2 (SQ2:US):Fs:=jg WU (WY SQ2)
def L13 (N_:Nat):LT:=(247,(FQ2 (sQ2 N_)))::L12 N_
def L14 (N_:Nat):LT:=ad (L13 N_) 220 ⟨[.int .u64,.int .u64,.int .u64,.int .u64],[]⟩ [.i,.i,.i,.i] (λS_ c_ a b c d=>S_ a b c d (λr0 r1=>c_ (.tup [vwu r0,vwu r1]) [])) N_ (vN N_)
def L15 (N_:Nat):LT:=ad (L14 N_) 253 ⟨[.roi .u64,.int .u64,.int .u64],[]⟩ [.is,.i,.i] (λS_ c_ x d more=>S_ x d more (λr0=>c_ (vwr r0) [])) N_ (M5 N_)
def WV:FnSh:=⟨[.int .u64,.int .u64,.int .u64],[]⟩
def WZ (SQ3:UT):SPT:=λa_ c_=>match a_ with
 | [.int a0,.int a1,.int a2]=>SQ3 a0 a1 a2 (λr0 r1=>c_ (.tup [vwu r0,vwu r1]) [])
 | _=>false
abbrev FQ3 (SQ3:UT):Fs:=jg WV (WZ SQ3)
def L16 (N_:Nat):LT:=(256,(FQ3 (sQ3 N_)))::L15 N_
def L17 (N_:Nat):LT:=ao (L16 N_) 216 ⟨[.sl 0],[some (43,1,.ints .u64)]⟩ [.n,.n,.is] (λS_ c_ Z_ Zs b=>S_ Z_ Zs b (λr1=>c_ (.sl 0 Z_ r1) [⟨43,1,.ints .u64 b⟩])) N_ (qE N_)
def L18 (N_:Nat):LT:=ad (L17 N_) 186 ⟨[.roi .u64,.roi .u64],[]⟩ [.is,.is] (λS_ c_ x y=>S_ x y (λr0=>c_ (vwr r0) [])) N_ (S2 N_)
def L19 (N_:Nat):LT:=ad (L18 N_) 155 ⟨[.agg [.int .i64,.int .i64,.slw 0],.int .i64,.int .i64],[some (169,1,.recs RT1)]⟩ [.i,.i,.i,.i,.r RT1] (λS_ c_ g_0 g_1 i j b=>S_ g_0 g_1 i j b (λr0 r1 r2 r3=>c_ (.agg [.rp [.bool r0,vwr r1,.bool r2,vwr r3] 0]) [⟨169,1,.recs RT1 b⟩])) N_ (eO N_)
def L20 (N_:Nat):LT:=ad (L19 N_) 223 ⟨[.rp [.bool,.roi .u64,.bool,.roi .u64] 0],[]⟩ [.b,.is,.b,.is] (λS_ c_ Z_ Zs Z2 x_3=>S_ Z_ Zs Z2 x_3 (λr0=>c_ (vwi r0) [])) N_ (Np N_)
def L21 (N_:Nat):LT:=ad (L20 N_) 107 ⟨[.int .i64],[]⟩ [.i] (λS_ c_ kind=>S_ kind (λr0=>c_ (vwi r0) [])) N_ (ox N_)
def L22 (N_:Nat):LT:=ad (L21 N_) 74 ⟨[.int .i64],[]⟩ [.i] (λS_ c_ ticks=>S_ ticks (λr0 r1=>c_ (.tup [.flt r0,vwi r1]) [])) N_ (no N_)
def L23 (N_:Nat):LT:=ad (L22 N_) 38 ⟨[.agg [.int .i64,.int .i64,.flt,.flt],.flt],[]⟩ [.i,.i,.f,.f,.f] (λS_ c_ p_0 p_1 Z4 p_3 d=>S_ p_0 p_1 Z4 p_3 d (λr0 r1=>c_ (.slw 0) [⟨26,1,.cells [.rof r0,.rof r1]⟩]) (λr0 r1 r2=>c_ (.slw 0) [⟨26,1,.cells [.rof r0,.rof r1,.rof r2]⟩]) (λr0=>c_ (.slw 0) [⟨26,1,.cells [.rof r0]⟩])) N_ (sH N_)
def L24 (N_:Nat):LT:=ad (L23 N_) 39 ⟨[.agg [.int .i64,.int .i64,.flt,.flt],.flt],[]⟩ [.i,.i,.f,.f,.f] (λS_ c_ p_0 p_1 Z4 p_3 d=>S_ p_0 p_1 Z4 p_3 d (λr0=>c_ (.slw 0) [⟨26,1,.cells [.rof r0]⟩]) (λr0 r1=>c_ (.slw 0) [⟨26,1,.cells [.rof r0,.rof r1]⟩]) (λr0 r1 r2=>c_ (.slw 0) [⟨26,1,.cells [.rof r0,.rof r1,.rof r2]⟩])) N_ (sI N_)
def L25 (N_:Nat):LT:=ad (L24 N_) 42 ⟨[.agg [.int .i64,.int .i64,.rof],.int .i64],[]⟩ [.i,.i,.fs,.i] (λS_ c_ ZI Zc Zp i=>S_ ZI Zc Zp i (λr0=>c_ (.rof r0) [])) N_ (qH N_)
def Mx:FnSh:=⟨[.flt],[]⟩
def B9 (agq:AE):SPT:=λa_ c_=>match a_ with
 | [.fl x]=>agq x (λr0=>c_ (.flt r0) [])
 | _=>false
abbrev Jk (agq:AE):Fs:=jg Mx (B9 agq)
def L26 (N_:Nat):LT:=(110,(Jk (vh N_)))::L25 N_
def PL:FnSh:=⟨[.fb],[]⟩
def PS (aja:RI):SPT:=λa_ c_=>match a_ with
 | [.nat x]=>aja x (λr0=>c_ (.flt r0) [])
 | _=>false
abbrev Sj (aja:RI):Fs:=jg PL (PS aja)
def L27 (N_:Nat):LT:=ad (L26 N_) 77 ⟨[.flt,.int .i64],[]⟩ [.f,.i] (λS_ c_ f sign=>S_ f sign (λr0=>c_ (.bool r0) [])) N_ (Jo N_)
def L28 (N_:Nat):LT:=ad1 1 (L27 N_) 46 ⟨[.ptr 0 0,.flt],[some (81,1,.cells [.bool])]⟩ [.f,.b] (λS_ c_ x b=>S_ x b (λr1=>c_ (.flt x) (.bool r1))) N_ (Ng N_)
def L29 (N_:Nat):LT:=ad1 1 (L28 N_) 67 ⟨[.ptr 0 0,.flt,.flt],[some (81,1,.cells [.bool])]⟩ [.f,.f,.b] (λS_ c_ a b Y8=>S_ a b Y8 (λr0 r1=>c_ (.flt r0) (.bool r1))) N_ (sF N_)
def L30 (N_:Nat):LT:=ad1 1 (L29 N_) 41 ⟨[.ptr 0 0,.rof,.rof],[some (81,1,.cells [.bool])]⟩ [.fs,.fs,.b] (λS_ c_ a b Y8=>S_ a b Y8 (λr0 r1=>c_ (.flt r0) (.bool r1))) N_ (sE N_)
def L31 (N_:Nat):LT:=ad (L30 N_) 76 ⟨[.agg [.int .i64,.int .i64,.rof],.int .i64],[]⟩ [.i,.i,.fs,.i] (λS_ c_ ZI Zc Zp j=>S_ ZI Zc Zp j (λr0=>c_ (.slw 0) [⟨47,1,.flts r0⟩])) N_ (qG N_)
def L32 (N_:Nat):LT:=ao1 1 (L31 N_) 41 ⟨[.ptr 0 0,.rof,.slw 1],[some (81,1,.cells [.bool]),some (47,1,.flts)]⟩ [.fs,.b,.fs] (λS_ c_ a b Y8=>S_ a b Y8 (λr0 r1=>c_ (.flt r0) (.bool r1))) N_ (Ni N_)
def L33 (N_:Nat):LT:=ad (L32 N_) 43 ⟨[.ptr 0 0,.agg [.int .i64,.int .i64,.rof],.agg [.int .i64,.int .i64,.rof]],[some (81,1,.cells [.bool])]⟩ [.i,.i,.fs,.i,.i,.fs,.b] (λS_ c_ a_0 Zy a_2 b_0 Y8 Za b=>S_ a_0 Zy a_2 b_0 Y8 Za b (λr2 r3=>c_ (.agg [vwi a_0,vwi Y8,.slw 1]) [⟨81,1,.cells [.bool r2]⟩,⟨47,1,.flts r3⟩])) N_ (jb N_)
def L34 (N_:Nat):LT:=ao (L33 N_) 42 ⟨[.agg [.int .i64,.int .i64,.slw 0],.int .i64],[some (47,1,.flts)]⟩ [.i,.i,.i,.fs] (λS_ c_ ZI Zc i b=>S_ ZI Zc i b (λr0 r1=>c_ (.sl 0 r0 r1) [⟨47,1,.flts b⟩])) N_ (ow N_)
def L35 (N_:Nat):LT:=ao1 1 (L34 N_) 41 ⟨[.ptr 0 0,.sl 1,.rof],[some (81,1,.cells [.bool]),some (47,1,.flts)]⟩ [.n,.n,.fs,.b,.fs] (λS_ c_ a_0 Zy b Y8 Za=>S_ a_0 Zy b Y8 Za (λr0 r1=>c_ (.flt r0) (.bool r1))) N_ (Nh N_)
def L36 (N_:Nat):LT:=ad (L35 N_) 45 ⟨[.int .i64,.int .i64,.ptr 0 0,.ptr 1 0,.ptr 2 0,.ptr 3 0,.ptr 4 0],[some (79,1,.cells [.ptr 5 0]),some (28,1,.cells [.int .i64,.int .i64,.slw 6]),some (28,1,.cells [.int .i64,.int .i64,.rof]),some (28,1,.cells [.int .i64,.int .i64,.rof]),some (3,1,.cells [.int .i64]),some (81,1,.cells [.bool]),some (47,1,.flts)]⟩ [.i,.i,.i,.i,.i,.i,.fs,.i,.i,.fs,.i,.b,.fs] (λS_ c_ i j b Y8 Za Zf Zl Zr ZA Zx ZF ZL Zh=>S_ i j b Y8 Za Zf Zl Zr ZA Zx ZF ZL Zh (λr0 r10=>c_ (.flt r0) [⟨79,1,.cells [.ptr 5 0]⟩,⟨28,1,.cells [vwi b,vwi Y8,.slw 6]⟩,⟨28,1,.cells [vwi Za,vwi Zf,.rof Zl]⟩,⟨28,1,.cells [vwi Zr,vwi ZA,.rof Zx]⟩,⟨3,1,.cells [vwi ZF]⟩,⟨81,1,.cells [.bool r10]⟩,⟨47,1,.flts Zh⟩])) N_ (bM N_)
def L37 (N_:Nat):LT:=ad (L36 N_) 44 ⟨[.int .i64,.fn 45 [.ptr 0 0,.ptr 1 0,.ptr 2 0,.ptr 3 0,.ptr 4 0]],[some (79,1,.cells [.ptr 5 0]),some (28,1,.cells [.int .i64,.int .i64,.slw 6]),some (28,1,.cells [.int .i64,.int .i64,.rof]),some (28,1,.cells [.int .i64,.int .i64,.rof]),some (3,1,.cells [.int .i64]),some (81,1,.cells [.bool]),some (47,1,.flts)]⟩ [.i,.i,.i,.i,.i,.fs,.i,.i,.fs,.i,.b,.fs] (λS_ c_ n b Y8 Za Zf Zl Zr ZA Zx ZF ZL Zh=>S_ n b Y8 Za Zf Zl Zr ZA Zx ZF ZL Zh (λr11 r13=>c_ (.agg [vwi n,vwi n,.slw 7]) [⟨79,1,.cells [.ptr 5 0]⟩,⟨28,1,.cells [vwi b,vwi Y8,.slw 6]⟩,⟨28,1,.cells [vwi Za,vwi Zf,.rof Zl]⟩,⟨28,1,.cells [vwi Zr,vwi ZA,.rof Zx]⟩,⟨3,1,.cells [vwi ZF]⟩,⟨81,1,.cells [.bool r11]⟩,⟨47,1,.flts Zh⟩,⟨47,1,.flts r13⟩])) N_ (dL N_)
def L38 (N_:Nat):LT:=ad1 2 (L37 N_) 78 ⟨[.ptr 0 0],[some (81,1,.cells [.bool])]⟩ [.b] (λS_ c_ b=>S_ b (c_ (.bool b) (.any))) N_ (qF N_)
def L39 (N_:Nat):LT:=ad (L38 N_) 7 ⟨[.slw 0],[some (26,1,.cells [.slw 1,.slw 2]),some (47,1,.flts),some (47,1,.flts)]⟩ [.fs,.fs] (λS_ c_ b Y8=>S_ b Y8 (λr0 r1=>c_ (.tup []) [⟨26,1,.cells [.slw 1,.slw 2]⟩,⟨47,1,.flts r0⟩,⟨47,1,.flts r1⟩])) N_ (Sl N_)
def L40 (N_:Nat):LT:=ad (L39 N_) 104 ⟨[.int .i64,.int .i64,.int .i64],[]⟩ [.i,.i,.i] (λS_ c_ rows cols n=>S_ rows cols n (λr0=>c_ (vwi r0) [])) N_ (sR N_)
def L41 (N_:Nat):LT:=ad (L40 N_) 143 ⟨[.int .i64,.int .u64,.int .i64],[]⟩ [.i,.i,.i] (λS_ c_ exp frac most=>S_ exp frac most (λr0=>c_ (vwi r0) [])) N_ (Nr N_)
def L42 (N_:Nat):LT:=ad (L41 N_) 228 ⟨[.int .u64,.int .i64],[]⟩ [.i,.i] (λS_ c_ m e=>S_ m e (λr0 r1=>c_ (.tup [vwu r0,vwi r1]) [])) N_ (uB N_)
def L43 (N_:Nat):LT:=ad (L42 N_) 175 ⟨[.slw 0],[some (218,1,.ints .u32)]⟩ [.is] (λS_ c_ b=>S_ b (λr0=>c_ (.sl 0 0 r0) [⟨218,1,.ints .u32 b⟩])) N_ (Sv N_)
def L44 (N_:Nat):LT:=ad (L43 N_) 229 ⟨[.int .u64],[]⟩ [.i] (λS_ c_ n=>S_ n (λr0=>c_ (vws r0) [])) N_ (Nc N_)
def L45 (N_:Nat):LT:=ao (L44 N_) 175 ⟨[.roi .u32],[]⟩ [.is] (λS_ c_ m=>S_ m (λr0=>c_ (vws r0) [])) N_ (xS N_)
def L46 (N_:Nat):LT:=ad (L45 N_) 210 ⟨[.roi .u32,.int .u64],[]⟩ [.is,.i] (λS_ c_ m n=>S_ m n (λr0=>c_ (vws r0) [])) N_ (vQ N_)
def L47 (N_:Nat):LT:=ad (L46 N_) 203 ⟨[.int .u32],[]⟩ [.i] (λS_ c_ x=>S_ x (λr0=>c_ (vwi r0) [])) N_ (GQ7 N_)
def L48 (N_:Nat):LT:=ad (L47 N_) 169 ⟨[.ptr 0 0],[some (153,1,.cells [.bool,.roi .u32])]⟩ [.b,.is] (λS_ c_ b Y8=>S_ b Y8 (λr0=>c_ (vwu r0) [⟨153,1,.cells [.bool b,vws Y8]⟩])) N_ (GQ0 N_)
def L49 (N_:Nat):LT:=ad (L48 N_) 170 ⟨[.roi .u32,.int .u64],[]⟩ [.is,.i] (λS_ c_ m n=>S_ m n (λr0=>c_ (vws r0) [])) N_ (SQ N_)
def L50 (N_:Nat):LT:=ad (L49 N_) 204 ⟨[.int .u32],[]⟩ [.i] (λS_ c_ x=>S_ x (λr0=>c_ (vwi r0) [])) N_ (MZ N_)
def L51 (N_:Nat):LT:=ad (L50 N_) 171 ⟨[.ptr 0 0],[some (153,1,.cells [.bool,.roi .u32])]⟩ [.b,.is] (λS_ c_ b Y8=>S_ b Y8 (λr0=>c_ (vwi r0) [⟨153,1,.cells [.bool b,vws Y8]⟩])) N_ (SN N_)
def L52 (N_:Nat):LT:=ad (L51 N_) 173 ⟨[.roi .u32,.roi .u32],[]⟩ [.is,.is] (λS_ c_ a b=>S_ a b (λr0=>c_ (vwi r0) [])) N_ (S0 N_)
def L53 (N_:Nat):LT:=ad (L52 N_) 206 ⟨[.roi .u32,.int .i64],[]⟩ [.is,.i] (λS_ c_ m at_=>S_ m at_ (λr0=>c_ (vwu r0) [])) N_ (vP N_)
def L54 (N_:Nat):LT:=ad (L53 N_) 205 ⟨[.int .u64,.int .u64],[]⟩ [.i,.i] (λS_ c_ x y=>S_ x y (λr0 r1 r2 r3=>c_ (.tup [vwi r0,vwi r1,vwi r2,vwi r3]) [])) N_ (sN N_)
def L55 (N_:Nat):LT:=ad (L54 N_) 208 ⟨[.roi .u32,.int .u32],[]⟩ [.is,.i] (λS_ c_ m d=>S_ m d (λr0 r1=>c_ (.tup [vws r0,vwv r1]) [])) N_ (sM N_)
def L56 (N_:Nat):LT:=ad (L55 N_) 211 ⟨[.sl 0,.sl 1,.int .i64,.int .u64],[some (218,1,.ints .u32),some (218,1,.ints .u32)]⟩ [.n,.n,.n,.n,.i,.i,.is,.is] (λS_ c_ u_0 u_1 d_0 Z6 j g b Y8=>S_ u_0 u_1 d_0 Z6 j g b Y8 (λr0 r1=>c_ (.bool r0) [⟨218,1,.ints .u32 r1⟩,⟨218,1,.ints .u32 Y8⟩])) N_ (M8 N_)
def L57 (N_:Nat):LT:=ad (L56 N_) 212 ⟨[.sl 0,.sl 1,.int .i64],[some (218,1,.ints .u32),some (218,1,.ints .u32)]⟩ [.n,.n,.n,.n,.i,.is,.is] (λS_ c_ u_0 u_1 d_0 Z6 j b Y8=>S_ u_0 u_1 d_0 Z6 j b Y8 (λr0=>c_ (.tup []) [⟨218,1,.ints .u32 r0⟩,⟨218,1,.ints .u32 Y8⟩])) N_ (M9 N_)
def L58 (N_:Nat):LT:=ao (L57 N_) 175 ⟨[.sl 0],[some (218,1,.ints .u32)]⟩ [.n,.n,.is] (λS_ c_ ZI Zc b=>S_ ZI Zc b (λr1=>c_ (.sl 0 ZI r1) [⟨218,1,.ints .u32 b⟩])) N_ (sK N_)
def L59 (N_:Nat):LT:=ao (L58 N_) 170 ⟨[.sl 0,.int .u64],[some (218,1,.ints .u32)]⟩ [.n,.n,.i,.is] (λS_ c_ ZI Zc n b=>S_ ZI Zc n b (λr0=>c_ (vws r0) [⟨218,1,.ints .u32 b⟩])) N_ (Nj N_)
def L60 (N_:Nat):LT:=ad (L59 N_) 137 ⟨[.roi .u32,.roi .u32],[]⟩ [.is,.is] (λS_ c_ a b=>S_ a b (λr0=>c_ (vws r0) [])) N_ (S3 N_)
def L61 (N_:Nat):LT:=ad (L60 N_) 231 ⟨[.roi .u32,.roi .u32],[]⟩ [.is,.is] (λS_ c_ a b=>S_ a b (λr0=>c_ (vws r0) [])) N_ (sL N_)
def L62 (N_:Nat):LT:=ad (L61 N_) 232 ⟨[.roi .u32,.int .u64,.roi .u32,.int .u64],[]⟩ [.is,.i,.is,.i] (λS_ c_ a u b v=>S_ a u b v (λr0=>c_ (vws r0) [])) N_ (Nq N_)
def L63 (N_:Nat):LT:=ad (L62 N_) 207 ⟨[.roi .u32,.int .i64,.roi .u32,.int .i64],[]⟩ [.is,.i,.is,.i] (λS_ c_ a u b v=>S_ a u b v (λr0=>c_ (vws r0) [])) N_ (uA N_)
def L64 (N_:Nat):LT:=ad (L63 N_) 131 ⟨[.int .i64,.int .i64],[]⟩ [.i,.i] (λS_ c_ rows cols=>S_ rows cols (λr2=>c_ (.agg [vwi rows,vwi cols,.slw 0]) [⟨148,1,.own 155 RT2 r2 []⟩])) N_ (qI N_)
def L65 (N_:Nat):LT:=ad (L64 N_) 133 ⟨[.rp [.bool,.roi .u32,.bool,.roi .u32] 0],[]⟩ [.b,.is,.b,.is] (λS_ c_ z_0 z_1 z_2 z_3=>S_ z_0 z_1 z_2 z_3 (λr0=>c_ (vwi r0) [])) N_ (xV N_)
def L66 (N_:Nat):LT:=ad (L65 N_) 230 ⟨[.roi .u32,.roi .u32],[]⟩ [.is,.is] (λS_ c_ a b=>S_ a b (λr0=>c_ (vws r0) [])) N_ (vR N_)
def L67 (N_:Nat):LT:=ad (L66 N_) 86 ⟨[.int .i64],[]⟩ [.i] (λS_ c_ kind=>S_ kind (λr0=>c_ (vwi r0) [])) N_ (vX N_)
def L68 (N_:Nat):LT:=ad (L67 N_) 236 ⟨[.int .i64],[]⟩ [.i] (λS_ c_ sign=>S_ sign (λr0=>c_ (.flt r0) [])) N_ (Jp N_)
def L69 (N_:Nat):LT:=ad (L68 N_) 84 ⟨[.int .i64],[]⟩ [.i] (λS_ c_ ticks=>S_ ticks (λr0 r1=>c_ (.tup [.flt r0,vwi r1]) [])) N_ (Nk N_)
def L70 (N_:Nat):LT:=ad (L69 N_) 117 ⟨[.agg [.int .i64,.int .i64,.flt,.flt],.flt],[]⟩ [.i,.i,.f,.f,.f] (λS_ c_ p_0 p_1 Z4 p_3 d=>S_ p_0 p_1 Z4 p_3 d (λr0=>c_ (.slw 0) [⟨47,1,.flts r0⟩])) N_ (vW N_)
def L71 (N_:Nat):LT:=ad (L70 N_) 118 ⟨[.agg [.int .i64,.int .i64,.flt,.flt],.flt],[]⟩ [.i,.i,.f,.f,.f] (λS_ c_ p_0 p_1 Z4 p_3 d=>S_ p_0 p_1 Z4 p_3 d (λr0=>c_ (.slw 0) [⟨47,1,.flts r0⟩])) N_ (qL N_)
def Rk:FnSh:=⟨[.flt],[]⟩
def PQ (aik:HC):SPT:=λa_ c_=>match a_ with
 | [.fl a0]=>aik a0 (λr0=>c_ (.flt r0) [])
 | _=>false
abbrev Rq (aik:HC):Fs:=jg Rk (PQ aik)
def L72 (N_:Nat):LT:=(177,(Rq (Pt N_)))::L71 N_
def L73 (N_:Nat):LT:=ad (L72 N_) 53 ⟨[.agg [.int .i64,.int .i64,.rof],.int .i64],[]⟩ [.i,.i,.fs,.i] (λS_ c_ ZI Zc Zp i=>S_ ZI Zc Zp i (λr0=>c_ (.rof r0) [])) N_ (xT N_)
def L74 (N_:Nat):LT:=ao (L73 N_) 53 ⟨[.agg [.int .i64,.int .i64,.slw 0],.int .i64],[some (47,1,.flts)]⟩ [.i,.i,.i,.fs] (λS_ c_ ZI Zc i b=>S_ ZI Zc i b (λr0 r1=>c_ (.sl 0 r0 r1) [⟨47,1,.flts b⟩])) N_ (sS N_)
def L75 (N_:Nat):LT:=ao1 1 (L74 N_) 46 ⟨[.ptr 0 0,.flt],[some (109,1,.cells [.bool,.rof,.int .i64,.int .i64,.rof,.rof,.flt,.flt,.nil,.nil,.flt])]⟩ [.f,.b,.fs,.i,.i,.fs,.fs,.f,.f,.f] (λS_ c_ x b Y8 Za Zf Zl Zr ZA Zx ZF=>S_ x b Y8 Za Zf Zl Zr ZA Zx ZF (λr1=>c_ (.flt x) (.bool r1))) N_ (rP N_)
def L76 (N_:Nat):LT:=ao1 1 (L75 N_) 67 ⟨[.ptr 0 0,.flt,.flt],[some (109,1,.cells [.bool,.rof,.int .i64,.int .i64,.rof,.rof,.flt,.flt,.nil,.nil,.flt])]⟩ [.f,.f,.b,.fs,.i,.i,.fs,.fs,.f,.f,.f] (λS_ c_ a b Y8 Za Zf Zl Zr ZA Zx ZF ZL=>S_ a b Y8 Za Zf Zl Zr ZA Zx ZF ZL (λr0 r1=>c_ (.flt r0) (.bool r1))) N_ (pU N_)
def L77 (N_:Nat):LT:=ao1 1 (L76 N_) 41 ⟨[.ptr 0 0,.rof,.rof],[some (109,1,.cells [.bool,.rof,.int .i64,.int .i64,.rof,.rof,.flt,.flt,.nil,.nil,.flt])]⟩ [.fs,.fs,.b,.fs,.i,.i,.fs,.fs,.f,.f,.f] (λS_ c_ a b Y8 Za Zf Zl Zr ZA Zx ZF ZL=>S_ a b Y8 Za Zf Zl Zr ZA Zx ZF ZL (λr0 r1=>c_ (.flt r0) (.bool r1))) N_ (xQ N_)
def L78 (N_:Nat):LT:=ao1 1 (L77 N_) 46 ⟨[.ptr 0 0,.flt],[some (109,1,.cells [.bool,.rof,.int .i64,.int .i64,.rof,.rof,.flt,.flt,.slw 1,.nil,.flt]),some (47,1,.flts)]⟩ [.f,.b,.fs,.i,.i,.fs,.fs,.f,.f,.f,.fs] (λS_ c_ x b Y8 Za Zf Zl Zr ZA Zx ZF ZL=>S_ x b Y8 Za Zf Zl Zr ZA Zx ZF ZL (λr1=>c_ (.flt x) (.bool r1))) N_ (Wi N_)
def L79 (N_:Nat):LT:=ao1 1 (L78 N_) 67 ⟨[.ptr 0 0,.flt,.flt],[some (109,1,.cells [.bool,.rof,.int .i64,.int .i64,.rof,.rof,.flt,.flt,.slw 1,.nil,.flt]),some (47,1,.flts)]⟩ [.f,.f,.b,.fs,.i,.i,.fs,.fs,.f,.f,.f,.fs] (λS_ c_ a b Y8 Za Zf Zl Zr ZA Zx ZF ZL Zh=>S_ a b Y8 Za Zf Zl Zr ZA Zx ZF ZL Zh (λr0 r1=>c_ (.flt r0) (.bool r1))) N_ (RA N_)
def L80 (N_:Nat):LT:=ao1 1 (L79 N_) 41 ⟨[.ptr 0 0,.rof,.rof],[some (109,1,.cells [.bool,.rof,.int .i64,.int .i64,.rof,.rof,.flt,.flt,.slw 1,.nil,.flt]),some (47,1,.flts)]⟩ [.fs,.fs,.b,.fs,.i,.i,.fs,.fs,.f,.f,.f,.fs] (λS_ c_ a b Y8 Za Zf Zl Zr ZA Zx ZF ZL Zh=>S_ a b Y8 Za Zf Zl Zr ZA Zx ZF ZL Zh (λr0 r1=>c_ (.flt r0) (.bool r1))) N_ (Rz N_)
def L81 (N_:Nat):LT:=ao1 1 (L80 N_) 41 ⟨[.ptr 0 0,.rof,.slw 1],[some (109,1,.cells [.bool,.rof,.int .i64,.int .i64,.rof,.rof,.flt,.flt,.slw 1,.nil,.flt]),some (47,1,.flts)]⟩ [.fs,.b,.fs,.i,.i,.fs,.fs,.f,.f,.f,.fs] (λS_ c_ a b Y8 Za Zf Zl Zr ZA Zx ZF ZL=>S_ a b Y8 Za Zf Zl Zr ZA Zx ZF ZL (λr0 r1=>c_ (.flt r0) (.bool r1))) N_ (RC N_)
def L82 (N_:Nat):LT:=ao1 2 (L81 N_) 78 ⟨[.ptr 0 0],[some (109,1,.cells [.bool,.rof,.int .i64,.int .i64,.rof,.rof,.flt,.flt,.slw 1,.nil,.flt]),some (47,1,.flts)]⟩ [.b,.fs,.i,.i,.fs,.fs,.f,.f,.f,.fs] (λS_ c_ b Y8 Za Zf Zl Zr ZA Zx ZF ZL=>S_ b Y8 Za Zf Zl Zr ZA Zx ZF ZL (c_ (.bool b) (.any))) N_ (RF N_)
def L83 (N_:Nat):LT:=ao1 1 (L82 N_) 46 ⟨[.ptr 0 0,.flt],[some (109,1,.cells [.bool,.rof,.int .i64,.int .i64,.rof,.rof,.flt,.flt,.slw 1,.slw 2,.flt]),some (47,1,.flts),some (47,1,.flts)]⟩ [.f,.b,.fs,.i,.i,.fs,.fs,.f,.f,.f,.fs,.fs] (λS_ c_ x b Y8 Za Zf Zl Zr ZA Zx ZF ZL Zh=>S_ x b Y8 Za Zf Zl Zr ZA Zx ZF ZL Zh (λr1=>c_ (.flt x) (.bool r1))) N_ (V1 N_)
def L84 (N_:Nat):LT:=ao1 1 (L83 N_) 67 ⟨[.ptr 0 0,.flt,.flt],[some (109,1,.cells [.bool,.rof,.int .i64,.int .i64,.rof,.rof,.flt,.flt,.slw 1,.slw 2,.flt]),some (47,1,.flts),some (47,1,.flts)]⟩ [.f,.f,.b,.fs,.i,.i,.fs,.fs,.f,.f,.f,.fs,.fs] (λS_ c_ a b Y8 Za Zf Zl Zr ZA Zx ZF ZL Zh ZK=>S_ a b Y8 Za Zf Zl Zr ZA Zx ZF ZL Zh ZK (λr0 r1=>c_ (.flt r0) (.bool r1))) N_ (V0 N_)
def L85 (N_:Nat):LT:=ao1 1 (L84 N_) 41 ⟨[.ptr 0 0,.sl 1,.slw 2],[some (109,1,.cells [.bool,.rof,.int .i64,.int .i64,.rof,.rof,.flt,.flt,.slw 3,.slw 4,.flt]),some (47,1,.flts),some (47,1,.flts),some (47,1,.flts),some (47,1,.flts)]⟩ [.n,.n,.b,.fs,.i,.i,.fs,.fs,.f,.f,.f,.fs,.fs,.fs,.fs] (λS_ c_ a_0 Zy b Y8 Za Zf Zl Zr ZA Zx ZF ZL Zh ZK ZW=>S_ a_0 Zy b Y8 Za Zf Zl Zr ZA Zx ZF ZL Zh ZK ZW (λr0 r1=>c_ (.flt r0) (.bool r1))) N_ (Rv N_)
def L86 (N_:Nat):LT:=ao (L85 N_) 43 ⟨[.ptr 0 0,.agg [.int .i64,.int .i64,.slw 1],.agg [.int .i64,.int .i64,.rof]],[some (109,1,.cells [.bool,.rof,.int .i64,.int .i64,.rof,.rof,.flt,.flt,.slw 2,.slw 3,.flt]),some (47,1,.flts),some (47,1,.flts),some (47,1,.flts)]⟩ [.i,.i,.i,.i,.fs,.b,.fs,.i,.i,.fs,.fs,.f,.f,.f,.fs,.fs,.fs] (λS_ c_ a_0 Zy b_0 Y8 Za b Zf Zl Zr ZA Zx ZF ZL Zh ZK ZW Z3=>S_ a_0 Zy b_0 Y8 Za b Zf Zl Zr ZA Zx ZF ZL Zh ZK ZW Z3 (λr2 r14=>c_ (.agg [vwi a_0,vwi Y8,.slw 4]) [⟨109,1,.cells [.bool r2,.rof Zf,vwi Zl,vwi Zr,.rof ZA,.rof Zx,.flt ZF,.flt ZL,.slw 2,.slw 3,.flt Zh]⟩,⟨47,1,.flts ZK⟩,⟨47,1,.flts ZW⟩,⟨47,1,.flts Z3⟩,⟨47,1,.flts r14⟩])) N_ (fL N_)
def L87 (N_:Nat):LT:=ao1 1 (L86 N_) 41 ⟨[.ptr 0 0,.sl 1,.sl 2],[some (109,1,.cells [.bool,.rof,.int .i64,.int .i64,.rof,.rof,.flt,.flt,.slw 3,.slw 4,.flt]),some (47,1,.flts),some (47,1,.flts),some (47,1,.flts),some (47,1,.flts)]⟩ [.n,.n,.n,.n,.b,.fs,.i,.i,.fs,.fs,.f,.f,.f,.fs,.fs,.fs,.fs] (λS_ c_ a_0 Zy b_0 Y8 b Za Zf Zl Zr ZA Zx ZF ZL Zh ZK ZW Z3=>S_ a_0 Zy b_0 Y8 b Za Zf Zl Zr ZA Zx ZF ZL Zh ZK ZW Z3 (λr0 r1=>c_ (.flt r0) (.bool r1))) N_ (Ru N_)
def L88 (N_:Nat):LT:=ad (L87 N_) 68 ⟨[.int .i64,.int .i64,.ptr 0 0,.ptr 1 0,.ptr 2 0],[some (68,1,.cells [.ptr 3 0]),some (28,1,.cells [.int .i64,.int .i64,.slw 4]),some (28,1,.cells [.int .i64,.int .i64,.slw 5]),some (109,1,.cells [.bool,.rof,.int .i64,.int .i64,.rof,.rof,.flt,.flt,.slw 6,.slw 7,.flt]),some (47,1,.flts),some (47,1,.flts),some (47,1,.flts),some (47,1,.flts)]⟩ [.i,.i,.i,.i,.i,.i,.b,.fs,.i,.i,.fs,.fs,.f,.f,.f,.fs,.fs,.fs,.fs] (λS_ c_ i j b Y8 Za Zf Zl Zr ZA Zx ZF ZL Zh ZK ZW Z3 aaE aaO aah=>S_ i j b Y8 Za Zf Zl Zr ZA Zx ZF ZL Zh ZK ZW Z3 aaE aaO aah (λr0 r5=>c_ (.flt r0) [⟨68,1,.cells [.ptr 3 0]⟩,⟨28,1,.cells [vwi b,vwi Y8,.slw 4]⟩,⟨28,1,.cells [vwi Za,vwi Zf,.slw 5]⟩,⟨109,1,.cells [.bool r5,.rof Zr,vwi ZA,vwi Zx,.rof ZF,.rof ZL,.flt Zh,.flt ZK,.slw 6,.slw 7,.flt ZW]⟩,⟨47,1,.flts Z3⟩,⟨47,1,.flts aaE⟩,⟨47,1,.flts aaO⟩,⟨47,1,.flts aah⟩])) N_ (cb N_)
def L89 (N_:Nat):LT:=ao (L88 N_) 44 ⟨[.int .i64,.fn 68 [.ptr 0 0,.ptr 1 0,.ptr 2 0]],[some (68,1,.cells [.ptr 3 0]),some (28,1,.cells [.int .i64,.int .i64,.slw 4]),some (28,1,.cells [.int .i64,.int .i64,.slw 5]),some (109,1,.cells [.bool,.rof,.int .i64,.int .i64,.rof,.rof,.flt,.flt,.slw 6,.slw 7,.flt]),some (47,1,.flts),some (47,1,.flts),some (47,1,.flts),some (47,1,.flts)]⟩ [.i,.i,.i,.i,.i,.b,.fs,.i,.i,.fs,.fs,.f,.f,.f,.fs,.fs,.fs,.fs] (λS_ c_ n b Y8 Za Zf Zl Zr ZA Zx ZF ZL Zh ZK ZW Z3 aaE aaO aah=>S_ n b Y8 Za Zf Zl Zr ZA Zx ZF ZL Zh ZK ZW Z3 aaE aaO aah (λr6 r19=>c_ (.agg [vwi n,vwi n,.slw 8]) [⟨68,1,.cells [.ptr 3 0]⟩,⟨28,1,.cells [vwi b,vwi Y8,.slw 4]⟩,⟨28,1,.cells [vwi Za,vwi Zf,.slw 5]⟩,⟨109,1,.cells [.bool r6,.rof Zr,vwi ZA,vwi Zx,.rof ZF,.rof ZL,.flt Zh,.flt ZK,.slw 6,.slw 7,.flt ZW]⟩,⟨47,1,.flts Z3⟩,⟨47,1,.flts aaE⟩,⟨47,1,.flts aaO⟩,⟨47,1,.flts aah⟩,⟨47,1,.flts r19⟩])) N_ (dP N_)
def L90 (N_:Nat):LT:=ad (L89 N_) 32 ⟨[.ptr 0 0],[some (109,1,.cells [.bool,.rof,.int .i64,.int .i64,.rof,.rof,.flt,.flt,.slw 1,.slw 2,.flt]),some (47,1,.flts),some (47,1,.flts)]⟩ [.b,.fs,.i,.i,.fs,.fs,.f,.f,.f,.fs,.fs] (λS_ c_ b Y8 Za Zf Zl Zr ZA Zx ZF ZL Zh=>S_ b Y8 Za Zf Zl Zr ZA Zx ZF ZL Zh (λr0 r1 r2 r13=>c_ (.agg [vwi r0,vwi r1,.slw 3]) [⟨109,1,.cells [.bool r2,.rof Y8,vwi Za,vwi Zf,.rof Zl,.rof Zr,.flt ZA,.flt Zx,.slw 1,.slw 2,.flt ZF]⟩,⟨47,1,.flts ZL⟩,⟨47,1,.flts Zh⟩,⟨47,1,.flts r13⟩])) N_ (eJ N_)
def L91 (N_:Nat):LT:=ao1 2 (L90 N_) 78 ⟨[.ptr 0 0],[some (109,1,.cells [.bool,.rof,.int .i64,.int .i64,.rof,.rof,.flt,.flt,.slw 1,.slw 2,.flt]),some (47,1,.flts),some (47,1,.flts)]⟩ [.b,.fs,.i,.i,.fs,.fs,.f,.f,.f,.fs,.fs] (λS_ c_ b Y8 Za Zf Zl Zr ZA Zx ZF ZL Zh=>S_ b Y8 Za Zf Zl Zr ZA Zx ZF ZL Zh (c_ (.bool b) (.any))) N_ (RD N_)
def L92 (N_:Nat):LT:=upM Pg km N_ fmd (L91 N_) [31,60,56,55,88,141,85,140,235,234,233,113,112,209,168,166,58,105,109,165,189,157,188,226,154,241,243,251,150,181,179,180,124,64,61,5,145,146,144,95]
def L93 (N_:Nat):LT:=ad (L92 N_) 122 ⟨[.int .u64,.agg [.int .u64,.int .i64,.int .i64]],[]⟩ [.i,.i,.i,.i] (λS_ c_ b f_0 f_1 f_2=>S_ b f_0 f_1 f_2 (λr0=>c_ (.bool r0) [])) N_ (MT N_)
def L94 (N_:Nat):LT:=ad (L93 N_) 123 ⟨[.agg [.int .u64,.int .i64,.int .i64]],[]⟩ [.i,.i,.i] (λS_ c_ f_0 f_1 f_2=>S_ f_0 f_1 f_2 (λr0=>c_ (vwu r0) [])) N_ (xR N_)
def L95 (N_:Nat):LT:=ad (L94 N_) 148 ⟨[.ptr 0 0,.int .u64],[some (189,1,.cells [.bool,.nil])]⟩ [.i,.b] (λS_ c_ n b=>S_ n b (λr0 r1=>c_ (.ptr 0 0) [⟨189,1,.cells [.bool r0,vwr r1]⟩])) N_ (Sp N_)
def L96 (N_:Nat):LT:=ad (L95 N_) 149 ⟨[.ptr 0 0,.ptr 0 0],[some (189,1,.cells [.bool,.roi .u64])]⟩ [.b,.is] (λS_ c_ b Y8=>S_ b Y8 (λr0 r1=>c_ (.ptr 0 0) [⟨189,1,.cells [.bool r0,vwr r1]⟩])) N_ (SC N_)
def L97 (N_:Nat):LT:=ad (L96 N_) 183 ⟨[.ptr 0 0,.int .i64],[some (189,1,.cells [.bool,.nil])]⟩ [.i,.b] (λS_ c_ n b=>S_ n b (λr0 r1=>c_ (.ptr 0 0) [⟨189,1,.cells [.bool r0,vwr r1]⟩])) N_ (SG N_)
def L98 (N_:Nat):LT:=ad (L97 N_) 239 ⟨[.roi .u64,.int .i64],[]⟩ [.is,.i] (λS_ c_ x from_=>S_ x from_ (λr0=>c_ (vwu r0) [])) N_ (xP N_)
def L99 (N_:Nat):LT:=ad (L98 N_) 252 ⟨[.roi .u64,.roi .u64],[]⟩ [.is,.is] (λS_ c_ x y=>S_ x y (λr0=>c_ (vwr r0) [])) N_ (Nf N_)
def S8 (N_:Nat):LT:=ad (L99 N_) 240 ⟨[.agg [.int .u64,.int .u64,.int .u64,.int .u64,.bool],.roi .u64,.roi .u64],[]⟩ [.i,.i,.i,.i,.b,.is,.is] (λS_ c_ w_0 w_1 w_2 w_3 w_4 x y=>S_ w_0 w_1 w_2 w_3 w_4 x y (λr0 r1=>c_ (.tup [vwr r0,vwr r1]) [])) N_ (dQ N_)
def S9 (N_:Nat):LT:=ad (S8 N_) 254 ⟨[.int .u64,.int .u64,.int .u64],[]⟩ [.i,.i,.i] (λS_ c_ hi lo y=>S_ hi lo y (λr0 r1=>c_ (.tup [vwu r0,vwu r1]) [])) N_ (MP N_)
def Ta (N_:Nat):LT:=ad (S9 N_) 242 ⟨[.roi .u64,.int .u64],[]⟩ [.is,.i] (λS_ c_ x d=>S_ x d (λr0 r1=>c_ (.tup [vwr r0,vwu r1]) [])) N_ (sD N_)
def Tb (N_:Nat):LT:=ad (Ta N_) 255 ⟨[.sl 0,.roi .u64],[some (43,1,.ints .u64)]⟩ [.n,.n,.is,.is] (λS_ c_ u_0 u_1 v b=>S_ u_0 u_1 v b (λr0=>c_ (vwu r0) [⟨43,1,.ints .u64 b⟩])) N_ (vx N_)
def Tc (N_:Nat):LT:=ad (Tb N_) 244 ⟨[.sl 0,.roi .u64],[some (43,1,.ints .u64)]⟩ [.n,.n,.is,.is] (λS_ c_ u_0 u_1 v b=>S_ u_0 u_1 v b (λr0 r1=>c_ (vwu r0) [⟨43,1,.ints .u64 r1⟩])) N_ (wU N_)
def Td (N_:Nat):LT:=ao (Tc N_) 255 ⟨[.sl 0,.sl 1],[some (43,1,.ints .u64),some (43,1,.ints .u64)]⟩ [.n,.n,.n,.n,.is,.is] (λS_ c_ u_0 u_1 v_0 v_1 b Y8=>S_ u_0 u_1 v_0 v_1 b Y8 (λr0=>c_ (vwu r0) [⟨43,1,.ints .u64 b⟩,⟨43,1,.ints .u64 Y8⟩])) N_ (P7 N_)
def Te (N_:Nat):LT:=ao (Td N_) 244 ⟨[.sl 0,.sl 1],[some (43,1,.ints .u64),some (43,1,.ints .u64)]⟩ [.n,.n,.n,.n,.is,.is] (λS_ c_ u_0 u_1 v_0 v_1 b Y8=>S_ u_0 u_1 v_0 v_1 b Y8 (λr0 r1=>c_ (vwu r0) [⟨43,1,.ints .u64 r1⟩,⟨43,1,.ints .u64 Y8⟩])) N_ (M6 N_)
def NA (N_:Nat):LT:=ad (Te N_) 245 ⟨[.sl 0,.int .u64],[some (43,1,.ints .u64)]⟩ [.n,.n,.i,.is] (λS_ c_ Z_ Zs n b=>S_ Z_ Zs n b (λr0 r1=>c_ (.tup [vwr r0,.bool r1]) [⟨43,1,.ints .u64 b⟩])) N_ (Jm N_)
def W5 (N_:Nat):LT:=ad (NA N_) 182 ⟨[.roi .u64,.int .u64],[]⟩ [.is,.i] (λS_ c_ x n=>S_ x n (c_ (.nil) []) (λr0 r1=>c_ (.sl 0 0 r0) [⟨43,1,.ints .u64 r1⟩])) N_ (S4 N_)
def Tf (N_:Nat):LT:=ad (NA N_) 219 ⟨[.roi .u64,.roi .u64],[]⟩ [.is,.is] (λS_ c_ x y=>S_ x y (λr0 r1=>c_ (.tup [vwr r0,vwr r1]) [])) N_ (Nd N_)
def Tg (N_:Nat):LT:=ad (Tf N_) 217 ⟨[.roi .u64,.roi .u64],[]⟩ [.is,.is] (λS_ c_ x y=>S_ x y (λr0=>c_ (vwr r0) [])) N_ (SF N_)
def Th (N_:Nat):LT:=ad (Tg N_) 184 ⟨[.ptr 0 0,.bool,.roi .u64,.roi .u64],[some (195,1,.cells [.bool,.nil,.bool,.nil])]⟩ [.b,.is,.is,.b,.b] (λS_ c_ neg a b Y8 Za=>S_ neg a b Y8 Za (λr0 r1 r2 r3=>c_ (.ptr 0 0) [⟨195,1,.cells [.bool r0,vwr r1,.bool r2,vwr r3]⟩])) N_ (SL N_)
def Ti (N_:Nat):LT:=ad (Th N_) 185 ⟨[.ptr 0 0,.bool,.roi .u64,.slw 1],[some (195,1,.cells [.bool,.nil,.bool,.nil]),some (43,1,.ints .u64)]⟩ [.b,.is,.b,.b,.is] (λS_ c_ neg a b Y8 Za=>S_ neg a b Y8 Za (λr0 r2=>c_ (.ptr 0 0) [⟨195,1,.cells [.bool r0,vwr a,.bool r2,.slw 1]⟩,⟨43,1,.ints .u64 Za⟩])) N_ (SR N_)
def Tj (N_:Nat):LT:=ao (Ti N_) 185 ⟨[.ptr 0 0,.bool,.roi .u64,.roi .u64],[some (195,1,.cells [.bool,.nil,.bool,.nil])]⟩ [.b,.is,.is,.b,.b] (λS_ c_ neg a b Y8 Za=>S_ neg a b Y8 Za (λr0 r2=>c_ (.ptr 0 0) [⟨195,1,.cells [.bool r0,vwr a,.bool r2,vwr b]⟩])) N_ (Sw N_)
def Tk (N_:Nat):LT:=ad (Tj N_) 222 ⟨[.ptr 0 0,.rp [.bool,.roi .u64,.bool,.roi .u64] 0],[some (195,1,.cells [.bool,.nil,.bool,.nil])]⟩ [.b,.is,.b,.is,.b,.b] (λS_ c_ Z_ Zs Z2 x_3 b Y8=>S_ Z_ Zs Z2 x_3 b Y8 (λr0 r1 r2 r3=>c_ (.ptr 0 0) [⟨195,1,.cells [.bool r0,vwr r1,.bool r2,vwr r3]⟩])) N_ (SW N_)
def Tl (N_:Nat):LT:=ad (Tk N_) 248 ⟨[.roi .u64,.roi .u64],[]⟩ [.is,.is] (λS_ c_ x y=>S_ x y (λr0=>c_ (vwr r0) [])) N_ (S5 N_)
def Tm (N_:Nat):LT:=ad (Tl N_) 257 ⟨[.roi .u64,.roi .u64],[]⟩ [.is,.is] (λS_ c_ x y=>S_ x y (λr0=>c_ (vwr r0) [])) N_ (xO N_)
def Tn (N_:Nat):LT:=ad (Tm N_) 249 ⟨[.ptr 0 0,.ptr 0 0,.bool,.roi .u64],[some (189,1,.cells [.bool,.roi .u64])]⟩ [.b,.is,.b,.is] (λS_ c_ neg y b Y8=>S_ neg y b Y8 (λr0 r1=>c_ (.ptr 0 0) [⟨189,1,.cells [.bool r0,vwr r1]⟩])) N_ (Sz N_)
def To (N_:Nat):LT:=ad (Tn N_) 221 ⟨[.ptr 0 0,.rp [.bool,.roi .u64,.bool,.roi .u64] 0,.ptr 1 0],[some (195,1,.cells [.bool,.nil,.bool,.nil]),some (195,1,.cells [.bool,.roi .u64,.bool,.roi .u64])]⟩ [.b,.is,.b,.is,.b,.b,.b,.is,.b,.is] (λS_ c_ Z_ Zs Z2 x_3 b Y8 Za Zf Zl Zr=>S_ Z_ Zs Z2 x_3 b Y8 Za Zf Zl Zr (λr0 r1 r2 r3=>c_ (.ptr 0 0) [⟨195,1,.cells [.bool r0,vwr r1,.bool r2,vwr r3]⟩,⟨195,1,.cells [.bool Za,vwr Zf,.bool Zl,vwr Zr]⟩])) N_ (Sx N_)
def Tp (N_:Nat):LT:=ad (To N_) 187 ⟨[.ptr 0 0,.rp [.bool,.roi .u64,.bool,.roi .u64] 0,.rp [.bool,.roi .u64,.bool,.roi .u64] 0],[some (195,1,.cells [.bool,.nil,.bool,.nil])]⟩ [.b,.is,.b,.is,.b,.is,.b,.is,.b,.b] (λS_ c_ Z_ Zs Z2 x_3 y_0 y_1 y_2 y_3 b Y8=>S_ Z_ Zs Z2 x_3 y_0 y_1 y_2 y_3 b Y8 (λr0 r1 r2 r3=>c_ (.ptr 0 0) [⟨195,1,.cells [.bool r0,vwr r1,.bool r2,vwr r3]⟩])) N_ (MO N_)
def Tq (N_:Nat):LT:=ad (Tp N_) 225 ⟨[.ptr 0 0,.bool,.roi .u64,.roi .u64,.roi .u64,.roi .u64],[some (195,1,.cells [.bool,.nil,.bool,.nil])]⟩ [.b,.is,.is,.is,.is,.b,.b] (λS_ c_ neg a b c d Y8 Za=>S_ neg a b c d Y8 Za (λr0 r1 r2 r3=>c_ (.ptr 0 0) [⟨195,1,.cells [.bool r0,vwr r1,.bool r2,vwr r3]⟩])) N_ (Sr N_)
def Ts (N_:Nat):LT:=ad (Tq N_) 193 ⟨[.ptr 0 0,.rp [.bool,.roi .u64,.bool,.roi .u64] 0,.rp [.bool,.roi .u64,.bool,.roi .u64] 0],[some (195,1,.cells [.bool,.nil,.bool,.nil])]⟩ [.b,.is,.b,.is,.b,.is,.b,.is,.b,.b] (λS_ c_ Z_ Zs Z2 x_3 y_0 y_1 y_2 y_3 b Y8=>S_ Z_ Zs Z2 x_3 y_0 y_1 y_2 y_3 b Y8 (λr0 r1 r2 r3=>c_ (.ptr 0 0) [⟨195,1,.cells [.bool r0,vwr r1,.bool r2,vwr r3]⟩])) N_ (MN N_)
def Tt (N_:Nat):LT:=ad (Ts N_) 224 ⟨[.ptr 0 0,.rp [.bool,.roi .u64,.bool,.roi .u64] 0,.rp [.bool,.roi .u64,.bool,.roi .u64] 0],[some (195,1,.cells [.bool,.nil,.bool,.nil])]⟩ [.b,.is,.b,.is,.b,.is,.b,.is,.b,.b] (λS_ c_ Z_ Zs Z2 x_3 y_0 y_1 y_2 y_3 b Y8=>S_ Z_ Zs Z2 x_3 y_0 y_1 y_2 y_3 b Y8 (λr0 r1 r2 r3=>c_ (.ptr 0 0) [⟨195,1,.cells [.bool r0,vwr r1,.bool r2,vwr r3]⟩])) N_ (MM N_)
def Tu (N_:Nat):LT:=ao (Tt N_) 221 ⟨[.ptr 0 0,.rp [.bool,.roi .u64,.bool,.roi .u64] 0,.rp [.bool,.roi .u64,.bool,.roi .u64] 0],[some (195,1,.cells [.bool,.nil,.bool,.nil])]⟩ [.b,.is,.b,.is,.b,.is,.b,.is,.b,.b] (λS_ c_ Z_ Zs Z2 x_3 y_0 y_1 y_2 y_3 b Y8=>S_ Z_ Zs Z2 x_3 y_0 y_1 y_2 y_3 b Y8 (λr0 r1 r2 r3=>c_ (.ptr 0 0) [⟨195,1,.cells [.bool r0,vwr r1,.bool r2,vwr r3]⟩])) N_ (P6 N_)
def Tv (N_:Nat):LT:=ad (Tu N_) 130 ⟨[.agg [.int .i64,.int .i64,.flt,.flt]],[]⟩ [.i,.i,.f,.f] (λS_ c_ p_0 p_1 Z4 p_3=>S_ p_0 p_1 Z4 p_3 (λr0=>c_ (vwi r0) [])) N_ (kG N_)
def Tw (N_:Nat):LT:=ad (Tv N_) 106 ⟨[.agg [.rl RT0]],[]⟩ [.r RT0] (λS_ c_ m=>S_ m (λr0=>c_ (vwi r0) [])) N_ (pM N_)
def Tx (N_:Nat):LT:=ad (Tw N_) 73 ⟨[.agg [.rl RT0]],[]⟩ [.r RT0] (λS_ c_ m=>S_ m (λr0 r1=>c_ (.tup [vwi r0,vwi r1]) [])) N_ (sG N_)
def Tz (N_:Nat):LT:=ad (Tx N_) 108 ⟨[.int .i64,.int .i64,.fn 109 []],[]⟩ [.i,.i] (λS_ c_ rows cols=>S_ rows cols (λr2=>c_ (.agg [vwi rows,vwi cols,.slw 0]) [⟨47,1,.flts r2⟩])) N_ (M0 N_)
def TA (N_:Nat):LT:=ad (Tz N_) 75 ⟨[.int .i64,.int .i64],[]⟩ [.i,.i] (λS_ c_ rows cols=>S_ rows cols (λr0 r1 r2=>c_ (.tup [.agg [vwi r0,vwi r1,.nil],vwi r2]) []) (λr2 r3=>c_ (.tup [.agg [vwi rows,vwi cols,.slw 0],vwi r2]) [⟨47,1,.flts r3⟩])) N_ (M7 N_)
def TB (N_:Nat):LT:=ad (TA N_) 142 ⟨[.flt],[]⟩ [.f] (λS_ c_ x=>S_ x (λr0 r1 r2=>c_ (.tup [.bool r0,vwi r1,vwu r2]) [])) N_ (sP N_)
def TC (N_:Nat):LT:=ad (TB N_) 72 ⟨[.flt,.flt],[]⟩ [.f,.f] (λS_ c_ a b=>S_ a b (λr0=>c_ (.bool r0) [])) N_ (vT N_)
def TD (N_:Nat):LT:=ad (TC N_) 199 ⟨[.flt],[]⟩ [.f] (λS_ c_ x=>S_ x (λr0 r1 r2 r3=>c_ (.tup [.agg [.bool r0,vwu r1,vwi r2],vwi r3]) [])) N_ (sO N_)
def TE (N_:Nat):LT:=ad (TD N_) 200 ⟨[.ptr 0 0,.int .u64],[some (153,1,.cells [.bool,.nil])]⟩ [.i,.b] (λS_ c_ n b=>S_ n b (λr0 r1=>c_ (.ptr 0 0) [⟨153,1,.cells [.bool r0,vws r1]⟩])) N_ (SK N_)
def TF (N_:Nat):LT:=ad (TE N_) 201 ⟨[.ptr 0 0,.ptr 0 0],[some (153,1,.cells [.bool,.roi .u32])]⟩ [.b,.is] (λS_ c_ b Y8=>S_ b Y8 (λr0 r1=>c_ (.ptr 0 0) [⟨153,1,.cells [.bool r0,vws r1]⟩])) N_ (Na N_)
def TG (N_:Nat):LT:=ad (TF N_) 162 ⟨[.flt],[]⟩ [.f] (λS_ c_ x=>S_ x (λr0 r1 r2=>c_ (.agg [.ptr 0 0,vwi r0]) [⟨153,1,.cells [.bool r1,vws r2]⟩])) N_ (Aw N_)
def NB (N_:Nat):LT:=ad (TG N_) 197 ⟨[.ptr 0 0,.ptr 1 0,.int .u64],[some (153,1,.cells [.bool,.nil]),some (153,1,.cells [.bool,.roi .u32])]⟩ [.i,.b,.b,.is] (λS_ c_ n b Y8 Za=>S_ n b Y8 Za (λr0 r1=>c_ (.ptr 0 0) [⟨153,1,.cells [.bool r0,vws r1]⟩,⟨153,1,.cells [.bool Y8,vws Za]⟩])) N_ (MS N_)
def W6 (N_:Nat):LT:=ad (NB N_) 210 ⟨[.roi .u32,.int .u64],[]⟩ [.is,.i] (λS_ c_ m n=>S_ m n (c_ (.nil) []) (λr0 r1=>c_ (.sl 0 0 r0) [⟨218,1,.ints .u32 r1⟩])) N_ (S6 N_)
def TH (N_:Nat):LT:=ad (NB N_) 174 ⟨[.roi .u32,.roi .u32],[]⟩ [.is,.is] (λS_ c_ a b=>S_ a b (λr0 r1=>c_ (.tup [vws r0,vws r1]) [])) N_ (Nv N_)
def TI (N_:Nat):LT:=ad (TH N_) 172 ⟨[.roi .u32,.roi .u32],[]⟩ [.is,.is] (λS_ c_ a b=>S_ a b (λr0=>c_ (vws r0) [])) N_ (Nb N_)
def TJ (N_:Nat):LT:=ad (TI N_) 136 ⟨[.ptr 0 0,.bool,.roi .u32,.roi .u32],[some (155,1,.cells [.bool,.nil,.bool,.nil])]⟩ [.b,.is,.is,.b,.b] (λS_ c_ neg a b Y8 Za=>S_ neg a b Y8 Za (λr0 r1 r2 r3=>c_ (.ptr 0 0) [⟨155,1,.cells [.bool r0,vws r1,.bool r2,vws r3]⟩])) N_ (Sq N_)
def TK (N_:Nat):LT:=ad (TJ N_) 227 ⟨[.ptr 0 0,.int .i64],[some (153,1,.cells [.bool,.nil])]⟩ [.i,.b] (λS_ c_ n b=>S_ n b (λr0 r1=>c_ (.ptr 0 0) [⟨153,1,.cells [.bool r0,vws r1]⟩])) N_ (MY N_)
def TL (N_:Nat):LT:=ad1 2 (TK N_) 138 ⟨[.rp [.bool,.roi .u32,.bool,.roi .u32] 0],[]⟩ [.b,.is,.b,.is] (λS_ c_ r_0 r_1 r_2 r_3=>S_ r_0 r_1 r_2 r_3 (λr0=>c_ (vws r0) (.any))) N_ (MV N_)
def TM (N_:Nat):LT:=ad (TL N_) 132 ⟨[.ptr 0 0,.rp [.bool,.roi .u32,.bool,.roi .u32] 0],[some (155,1,.cells [.bool,.roi .u32,.bool,.roi .u32])]⟩ [.b,.is,.b,.is,.b,.is,.b,.is] (λS_ c_ Z_ Zs Z2 x_3 b Y8 Za Zf=>S_ Z_ Zs Z2 x_3 b Y8 Za Zf (λr0 r1 r2 r3=>c_ (.ptr 0 0) [⟨155,1,.cells [.bool r0,vws r1,.bool r2,vws r3]⟩])) N_ (SZ N_)
def TN (N_:Nat):LT:=ad (TM N_) 111 ⟨[.agg [.int .i64,.int .i64,.rl RT3]],[]⟩ [.i,.i,.r RT3] (λS_ c_ ZI Zc Zp=>S_ ZI Zc Zp (λr2=>c_ (.agg [vwi ZI,vwi Zc,.slw 0]) [⟨148,1,.own 155 RT2 r2 []⟩])) N_ (SY N_)
def TO (N_:Nat):LT:=ao1 2 (TN N_) 138 ⟨[.ptr 0 0],[some (155,1,.cells [.bool,.roi .u32,.bool,.roi .u32])]⟩ [.b,.is,.b,.is] (λS_ c_ b Y8 Za Zf=>S_ b Y8 Za Zf (λr0=>c_ (vws r0) (.any))) N_ (GQ4 N_)
def TP (N_:Nat):LT:=ad (TO N_) 115 ⟨[.ptr 0 0,.ptr 1 0,.ptr 2 0],[some (155,1,.cells [.bool,.nil,.bool,.nil]),some (155,1,.cells [.bool,.roi .u32,.bool,.roi .u32]),some (155,1,.cells [.bool,.roi .u32,.bool,.roi .u32])]⟩ [.b,.b,.b,.is,.b,.is,.b,.is,.b,.is] (λS_ c_ b Y8 Za Zf Zl Zr ZA Zx ZF ZL=>S_ b Y8 Za Zf Zl Zr ZA Zx ZF ZL (λr0 r1 r2 r3=>c_ (.ptr 0 0) [⟨155,1,.cells [.bool r0,vws r1,.bool r2,vws r3]⟩,⟨155,1,.cells [.bool Za,vws Zf,.bool Zl,vws Zr]⟩,⟨155,1,.cells [.bool ZA,vws Zx,.bool ZF,vws ZL]⟩])) N_ (So N_)
def TQ (N_:Nat):LT:=ad (TP N_) 135 ⟨[.ptr 0 0,.ptr 1 0,.ptr 2 0],[some (155,1,.cells [.bool,.nil,.bool,.nil]),some (155,1,.cells [.bool,.roi .u32,.bool,.roi .u32]),some (155,1,.cells [.bool,.roi .u32,.bool,.roi .u32])]⟩ [.b,.b,.b,.is,.b,.is,.b,.is,.b,.is] (λS_ c_ b Y8 Za Zf Zl Zr ZA Zx ZF ZL=>S_ b Y8 Za Zf Zl Zr ZA Zx ZF ZL (λr0 r1 r2 r3=>c_ (.ptr 0 0) [⟨155,1,.cells [.bool r0,vws r1,.bool r2,vws r3]⟩,⟨155,1,.cells [.bool Za,vws Zf,.bool Zl,vws Zr]⟩,⟨155,1,.cells [.bool ZA,vws Zx,.bool ZF,vws ZL]⟩])) N_ (Sn N_)
def TR (N_:Nat):LT:=ad (TQ N_) 163 ⟨[.ptr 0 0,.ptr 1 0],[some (155,1,.cells [.bool,.roi .u32,.bool,.roi .u32]),some (155,1,.cells [.bool,.roi .u32,.bool,.roi .u32])]⟩ [.b,.is,.b,.is,.b,.is,.b,.is] (λS_ c_ b Y8 Za Zf Zl Zr ZA Zx=>S_ b Y8 Za Zf Zl Zr ZA Zx (λr9 r11=>c_ (.tup [.ptr 2 0,.ptr 3 0]) [⟨155,1,.cells [.bool b,vws Y8,.bool Za,vws Zf]⟩,⟨155,1,.cells [.bool Zl,vws Zr,.bool ZA,vws Zx]⟩,⟨153,1,.cells [.bool b,vws r9]⟩,⟨153,1,.cells [.bool Zl,vws r11]⟩])) N_ (SS N_)
def TS (N_:Nat):LT:=ad (TR N_) 202 ⟨[.ptr 0 0,.ptr 1 0,.ptr 2 0,.bool],[some (153,1,.cells [.bool,.nil]),some (153,1,.cells [.bool,.roi .u32]),some (153,1,.cells [.bool,.roi .u32])]⟩ [.b,.b,.b,.is,.b,.is] (λS_ c_ turn b Y8 Za Zf Zl=>S_ turn b Y8 Za Zf Zl (λr0 r1=>c_ (.ptr 0 0) [⟨153,1,.cells [.bool r0,vws r1]⟩,⟨153,1,.cells [.bool Y8,vws Za]⟩,⟨153,1,.cells [.bool Zf,vws Zl]⟩])) N_ (S1 N_)
def TT (N_:Nat):LT:=ao (TS N_) 136 ⟨[.ptr 0 0,.bool,.roi .u32,.roi .u32],[some (155,1,.cells [.bool,.roi .u32,.bool,.roi .u32])]⟩ [.b,.is,.is,.b,.is,.b,.is] (λS_ c_ neg a b Y8 Za Zf Zl=>S_ neg a b Y8 Za Zf Zl (λr0 r1 r2 r3=>c_ (.ptr 0 0) [⟨155,1,.cells [.bool r0,vws r1,.bool r2,vws r3]⟩])) N_ (SM N_)
def TU (N_:Nat):LT:=ad (TT N_) 214 ⟨[.flt,.int .i64],[]⟩ [.f,.i] (λS_ c_ frac exp=>S_ frac exp (λr0=>c_ (.flt r0) [])) N_ (CT N_)
def TV (N_:Nat):LT:=ad (TU N_) 119 ⟨[.agg [.int .i64,.int .i64,.flt,.flt],.flt],[]⟩ [.i,.i,.f,.f,.f] (λS_ c_ p_0 p_1 Z4 p_3 d=>S_ p_0 p_1 Z4 p_3 d (λr0=>c_ (.slw 0) [⟨47,1,.flts r0⟩])) N_ (Az N_)
def TW (N_:Nat):LT:=ad (TV N_) 87 ⟨[.agg [.int .i64,.int .i64,.flt,.flt],.flt,.int .i64],[]⟩ [.i,.i,.f,.f,.f,.i] (λS_ c_ p_0 p_1 Z4 p_3 d what=>S_ p_0 p_1 Z4 p_3 d what (λr0=>c_ (.slw 0) [⟨47,1,.flts r0⟩])) N_ (Jl N_)
def TX (N_:Nat):LT:=ad (TW N_) 90 ⟨[.agg [.int .i64,.int .i64,.rof],.int .i64],[]⟩ [.i,.i,.fs,.i] (λS_ c_ ZI Zc Zp j=>S_ ZI Zc Zp j (λr0=>c_ (.slw 0) [⟨47,1,.flts r0⟩])) N_ (qJ N_)
def TY (N_:Nat):LT:=ad (TX N_) 92 ⟨[.agg [.int .i64,.int .i64,.rof]],[]⟩ [.i,.i,.fs] (λS_ c_ ZI Zc Zp=>S_ ZI Zc Zp (λr2=>c_ (.agg [vwi ZI,vwi Zc,.slw 0]) [⟨47,1,.flts r2⟩])) N_ (qK N_)
def TZ (N_:Nat):LT:=ad (TY N_) 24 ⟨[.rof,.rof],[]⟩ [.fs,.fs] (λS_ c_ a b=>S_ a b (λr0=>c_ (.bool r0) [])) N_ (Su N_)
def T0 (N_:Nat):LT:=ad (TZ N_) 9 ⟨[.agg [.rof,.int .i64,.int .i64,.rof],.agg [.rof,.int .i64,.int .i64,.rof]],[]⟩ [.fs,.i,.i,.fs,.fs,.i,.i,.fs] (λS_ c_ a_0 Zy a_2 a_3 b_0 Y8 Za Zf=>S_ a_0 Zy a_2 a_3 b_0 Y8 Za Zf (λr0=>c_ (.bool r0) [])) N_ (Sm N_)
def T1 (N_:Nat):LT:=upM Pg km N_ fmd (T0 N_) [139,176,167,196,198,194,195,91,120,190,191,160,156,153,152,151,96]
def T2 (N_:Nat):LT:=ad (T1 N_) 121 ⟨[.int .u64,.agg [.int .u64,.int .i64,.int .i64]],[]⟩ [.i,.i,.i,.i] (λS_ c_ b f_0 f_1 f_2=>S_ b f_0 f_1 f_2 (λr0 r1 r2=>c_ (.tup [.bool r0,vwi r1,vwu r2]) [])) N_ (SI N_)
def NC (N_:Nat):LT:=ad (T2 N_) 94 ⟨[.int .u64,.agg [.int .u64,.int .i64,.int .i64]],[]⟩ [.i,.i,.i,.i] (λS_ c_ b f_0 f_1 f_2=>S_ b f_0 f_1 f_2 (λr0=>c_ (vwi r0) [])) N_ (SH N_)
def VK:FnSh:=⟨[.flt],[]⟩
def PR (ai_:NH):SPT:=λa_ c_=>match a_ with
 | [.fl x]=>ai_ x (λr0=>c_ (vwi r0) [])
 | _=>false
abbrev VX (ai_:NH):Fs:=jg VK (PR ai_)
def T3 (N_:Nat):LT:=(62,(VX (PD N_)))::NC N_
def Sb:FnSh:=⟨[.fb],[]⟩
def VM (SQ5:Wl):SPT:=λa_ c_=>match a_ with
 | [.nat x]=>SQ5 x (λr0=>c_ (vwi r0) [])
 | _=>false
abbrev FQ5 (SQ5:Wl):Fs:=jg Sb (VM SQ5)
def T4 (N_:Nat):LT:=ad (T3 N_) 26 ⟨[.rof],[]⟩ [.fs] (λS_ c_ l=>S_ l (λr0=>c_ (.bool r0) [])) N_ (SO N_)
def ND (N_:Nat):LT:=ad (T4 N_) 25 ⟨[.agg [.int .i64,.int .i64,.rof]],[]⟩ [.i,.i,.fs] (λS_ c_ ZI Zc Zp=>S_ ZI Zc Zp (λr0=>c_ (vwi r0) [])) N_ (SE N_)
def VL:FnSh:=⟨[.flt,.flt],[]⟩
def PT (ajb:NI):SPT:=λa_ c_=>match a_ with
 | [.fl a,.fl b]=>ajb a b (λr0=>c_ (.bool r0) [])
 | _=>false
abbrev VY (ajb:NI):Fs:=jg VL (PT ajb)
def T5 (N_:Nat):LT:=(63,(VY (PF N_)))::ND N_
def Sc:FnSh:=⟨[.fb,.fb],[]⟩
def VN (SQ6:Wm):SPT:=λa_ c_=>match a_ with
 | [.nat a,.nat b]=>SQ6 a b (λr0=>c_ (.bool r0) [])
 | _=>false
abbrev FQ6 (SQ6:Wm):Fs:=jg Sc (VN SQ6)
def T6 (N_:Nat):LT:=ad (T5 N_) 27 ⟨[.agg [.int .i64,.int .i64,.rof]],[]⟩ [.i,.i,.fs] (λS_ c_ ZI Zc Zp=>S_ ZI Zc Zp (λr0=>c_ (.bool r0) [])) N_ (SJ N_)
def T7 (N_:Nat):LT:=ad (T6 N_) 178 ⟨[.int .u64,.agg [.int .u64,.int .i64,.int .i64]],[]⟩ [.i,.i,.i,.i] (λS_ c_ b f_0 f_1 f_2=>S_ b f_0 f_1 f_2 (λr0 r1 r2 r3=>c_ (.tup [.agg [.bool r0,vwu r1,vwi r2],vwi r3]) [])) N_ (SV N_)
def T8 (N_:Nat):LT:=ad (T7 N_) 126 ⟨[.agg [.int .i64,.int .i64,.slw 0]],[some (169,1,.recs RT1)]⟩ [.i,.i,.r RT1] (λS_ c_ g_0 g_1 b=>S_ g_0 g_1 b (c_ (.tup []) [⟨169,1,.recs RT1 b⟩])) N_ (cB N_)
def T9 (N_:Nat):LT:=ad (T8 N_) 192 ⟨[.int .i64,.int .i64],[]⟩ [.i,.i] (λS_ c_ a b=>S_ a b (λr0 r1 r2 r3=>c_ (.ptr 0 0) [⟨195,1,.cells [.bool r0,vwr r1,.bool r2,vwr r3]⟩])) N_ (qC N_)
def T_ (N_:Nat):LT:=ad (T9 N_) 158 ⟨[.agg [.int .i64,.int .i64,.slw 0],.int .i64,.int .i64,.agg [.rp [.bool,.roi .u64,.bool,.roi .u64] 0]],[some (169,1,.recs RT1)]⟩ [.i,.i,.i,.i,.b,.is,.b,.is,.r RT1] (λS_ c_ g_0 g_1 i k_ Z_ Zs Z2 x_3 b=>S_ g_0 g_1 i k_ Z_ Zs Z2 x_3 b (λr0=>c_ (.tup []) [⟨169,1,.recs RT1 r0⟩])) N_ (eK N_)
def Ua (N_:Nat):LT:=ad (T_ N_) 37 ⟨[.agg [.rl RT0],.int .i64,.fn 38 []],[]⟩ [.r RT0,.i] (λS_ c_ m ticks=>S_ m ticks (λr0 r1 r2=>c_ (.tup [.agg [vwi r0,vwi r1,.nil],vwi r2]) []) (λr0 r1 r2 r3=>c_ (.tup [.agg [vwi r0,vwi r1,.slw 0],vwi r2]) [⟨47,1,.flts r3⟩])) N_ (mc N_)
def Ub (N_:Nat):LT:=ao (Ua N_) 37 ⟨[.agg [.rl RT0],.int .i64,.fn 39 []],[]⟩ [.r RT0,.i] (λS_ c_ m ticks=>S_ m ticks (λr0 r1 r2=>c_ (.tup [.agg [vwi r0,vwi r1,.nil],vwi r2]) []) (λr0 r1 r2 r3=>c_ (.tup [.agg [vwi r0,vwi r1,.slw 0],vwi r2]) [⟨47,1,.flts r3⟩])) N_ (j7 N_)
def Uc (N_:Nat):LT:=ad (Ub N_) 40 ⟨[.agg [.int .i64,.int .i64,.rof],.int .i64],[]⟩ [.i,.i,.fs,.i] (λS_ c_ ZI Zc Zp n=>S_ ZI Zc Zp n (λr0=>c_ (vwi r0) [])) N_ (nn N_)
def Ud (N_:Nat):LT:=ad (Uc N_) 80 ⟨[.rof],[]⟩ [.fs] (λS_ c_ l=>S_ l (λr0=>c_ (.bool r0) [])) N_ (SB N_)
def Ue (N_:Nat):LT:=ad (Ud N_) 71 ⟨[.agg [.int .i64,.int .i64,.rof]],[]⟩ [.i,.i,.fs] (λS_ c_ ZI Zc Zp=>S_ ZI Zc Zp (λr0=>c_ (vwi r0) [])) N_ (vU N_)
def Uf (N_:Nat):LT:=ad (Ue N_) 36 ⟨[.agg [.int .i64,.int .i64,.rof]],[]⟩ [.i,.i,.fs] (λS_ c_ ZI Zc Zp=>S_ ZI Zc Zp (λr0=>c_ (vwi r0) [])) N_ (MR N_)
def Ug (N_:Nat):LT:=ad (Uf N_) 161 ⟨[.agg [.ptr 0 0,.int .i64]],[some (153,1,.cells [.bool,.roi .u32])]⟩ [.i,.b,.is] (λS_ c_ x b Y8=>S_ x b Y8 (λr2 r3 r4 r5=>c_ (.ptr 1 0) [⟨153,1,.cells [.bool b,vws Y8]⟩,⟨155,1,.cells [.bool r2,vws r3,.bool r4,vws r5]⟩])) N_ (SU N_)
def Uh (N_:Nat):LT:=ad (Ug N_) 134 ⟨[.ptr 0 0,.ptr 0 0,.ptr 1 0],[some (155,1,.cells [.bool,.roi .u32,.bool,.roi .u32]),some (155,1,.cells [.bool,.roi .u32,.bool,.roi .u32])]⟩ [.b,.is,.b,.is,.b,.is,.b,.is] (λS_ c_ b Y8 Za Zf Zl Zr ZA Zx=>S_ b Y8 Za Zf Zl Zr ZA Zx (λr0 r1 r2 r3=>c_ (.ptr 0 0) [⟨155,1,.cells [.bool r0,vws r1,.bool r2,vws r3]⟩,⟨155,1,.cells [.bool Zl,vws Zr,.bool ZA,vws Zx]⟩])) N_ (Ss N_)
def Ui (N_:Nat):LT:=ad (Uh N_) 114 ⟨[.agg [.int .i64,.int .i64,.slw 0],.int .i64,.int .i64,.ptr 1 0],[some (148,1,.own 155 RT2),some (155,1,.cells [.bool,.roi .u32,.bool,.roi .u32])]⟩ [.i,.i,.i,.i,.r RT2,.b,.is,.b,.is] (λS_ c_ ZI Zc i k_ b Y8 Za Zf Zl=>S_ ZI Zc i k_ b Y8 Za Zf Zl (λr0=>c_ (.tup []) [⟨148,1,.own 155 RT2 r0 []⟩,⟨155,1,.cells [.bool Y8,vws Za,.bool Zf,vws Zl]⟩])) N_ (Sy N_)
def Uj (N_:Nat):LT:=ad (Ui N_) 82 ⟨[.agg [.int .i64,.int .i64,.rl RT3]],[]⟩ [.i,.i,.r RT3] (λS_ c_ ZI Zc Zp=>S_ ZI Zc Zp (λr0=>c_ (vwi r0) [])) N_ (M4 N_)
def Uk (N_:Nat):LT:=ad (Uj N_) 116 ⟨[.agg [.rl RT0]],[]⟩ [.r RT0] (λS_ c_ m=>S_ m (λr0=>c_ (vwi r0) [])) N_ (sT N_)
def Ul (N_:Nat):LT:=ad (Uk N_) 83 ⟨[.agg [.rl RT0]],[]⟩ [.r RT0] (λS_ c_ m=>S_ m (λr0 r1=>c_ (.tup [vwi r0,vwi r1]) [])) N_ (xU N_)
def Um (N_:Nat):LT:=ad (Ul N_) 57 ⟨[.ptr 0 0,.flt],[some (93,1,.cells [.bool])]⟩ [.f,.b] (λS_ c_ x b=>S_ x b (λr1=>c_ (.flt x) [⟨93,1,.cells [.bool r1]⟩])) N_ (xW N_)
def Un (N_:Nat):LT:=ad (Um N_) 52 ⟨[.ptr 0 0,.rof,.rof],[some (93,1,.cells [.bool])]⟩ [.fs,.fs,.b] (λS_ c_ a b Y8=>S_ a b Y8 (λr0 r1=>c_ (.flt r0) [⟨93,1,.cells [.bool r1]⟩])) N_ (sZ N_)
def Uo (N_:Nat):LT:=ao (Un N_) 52 ⟨[.ptr 0 0,.rof,.slw 1],[some (93,1,.cells [.bool]),some (47,1,.flts)]⟩ [.fs,.b,.fs] (λS_ c_ a b Y8=>S_ a b Y8 (λr0 r1=>c_ (.flt r0) [⟨93,1,.cells [.bool r1]⟩,⟨47,1,.flts Y8⟩])) N_ (Nm N_)
def Up (N_:Nat):LT:=ad (Uo N_) 54 ⟨[.agg [.int .i64,.int .i64,.rof],.agg [.int .i64,.int .i64,.rof],.ptr 0 0],[some (93,1,.cells [.bool])]⟩ [.i,.i,.fs,.i,.i,.fs,.b] (λS_ c_ a_0 Zy a_2 b_0 Y8 Za b=>S_ a_0 Zy a_2 b_0 Y8 Za b (λr2 r3=>c_ (.agg [vwi a_0,vwi Y8,.slw 1]) [⟨93,1,.cells [.bool r2]⟩,⟨47,1,.flts r3⟩])) N_ (M_ N_)
def Uq (N_:Nat):LT:=ao (Up N_) 52 ⟨[.ptr 0 0,.sl 1,.rof],[some (93,1,.cells [.bool]),some (47,1,.flts)]⟩ [.n,.n,.fs,.b,.fs] (λS_ c_ a_0 Zy b Y8 Za=>S_ a_0 Zy b Y8 Za (λr0 r1=>c_ (.flt r0) [⟨93,1,.cells [.bool r1]⟩,⟨47,1,.flts Za⟩])) N_ (Nl N_)
def Ur (N_:Nat):LT:=ad (Uq N_) 101 ⟨[.int .i64,.rof,.flt],[]⟩ [.i,.fs,.f] (λS_ c_ n h r=>S_ n h r (λr0=>c_ (vwi r0) [])) N_ (vy N_)
def Us (N_:Nat):LT:=upM Pg km N_ fmd (Ur N_) [89,128,79,18,17,159,147]
def Ut (N_:Nat):LT:=ad (Us N_) 125 ⟨[.flt],[]⟩ [.f] (λS_ c_ x=>S_ x (λr0 r1 r2 r3=>c_ (.agg [.rp [.bool r0,vwr r1,.bool r2,vwr r3] 0]) [])) N_ (j9 N_)
def Uu (N_:Nat):LT:=ad (Ut N_) 99 ⟨[.agg [.int .i64,.int .i64,.rof]],[]⟩ [.i,.i,.fs] (λS_ c_ ZI Zc Zp=>S_ ZI Zc Zp (λr2=>c_ (.agg [vwi ZI,vwi Zc,.slw 0]) [⟨169,1,.recs RT1 r2⟩])) N_ (jc N_)
def Uv (N_:Nat):LT:=ad (Uu N_) 127 ⟨[.agg [.int .i64,.int .i64,.slw 0]],[some (169,1,.recs RT1)]⟩ [.i,.i,.r RT1] (λS_ c_ g_0 g_1 b=>S_ g_0 g_1 b (λr0 r1=>c_ (vwi r0) [⟨169,1,.recs RT1 r1⟩])) N_ (cR N_)
def Uw (N_:Nat):LT:=ad (Uv N_) 48 ⟨[.agg [.rof,.int .i64,.int .i64,.rof]],[]⟩ [.fs,.i,.i,.fs] (λS_ c_ ZT Zw Zz ZH=>S_ ZT Zw Zz ZH (λr0=>c_ (vwi r0) [])) N_ (sV N_)
def Ux (N_:Nat):LT:=ad (Uw N_) 102 ⟨[.agg [.int .i64,.int .i64,.rof]],[]⟩ [.i,.i,.fs] (λS_ c_ ZI Zc Zp=>S_ ZI Zc Zp (λr2=>c_ (.agg [vwi ZI,vwi Zc,.slw 0]) [⟨148,1,.own 155 RT2 r2 []⟩])) N_ (sQ N_)
def Uy (N_:Nat):LT:=ad (Ux N_) 50 ⟨[.agg [.rl RT0],.int .i64,.int .i64],[]⟩ [.r RT0,.i,.i] (λS_ c_ m ticks what=>S_ m ticks what (λr0 r1 r2=>c_ (.tup [.agg [vwi r0,vwi r1,.nil],vwi r2]) []) (λr0 r1 r2 r3=>c_ (.tup [.agg [vwi r0,vwi r1,.rof r2],vwi r3]) [])) N_ (Ns N_)
def Uz (N_:Nat):LT:=ad (Uy N_) 51 ⟨[.agg [.int .i64,.int .i64,.rof],.int .i64],[]⟩ [.i,.i,.fs,.i] (λS_ c_ f_0 f_1 f_2 rows=>S_ f_0 f_1 f_2 rows (λr0=>c_ (vwi r0) [])) N_ (Nt N_)
def UA (N_:Nat):LT:=upM Pg km N_ fmd (Uz N_) [22,21,49,81,100]
def UB (N_:Nat):LT:=ad (UA N_) 65 ⟨[.agg [.int .i64,.int .i64,.rof]],[]⟩ [.i,.i,.fs] (λS_ c_ ZI Zc Zp=>S_ ZI Zc Zp (λr0 r1=>c_ (.tup [vwi r0,vwi r1]) [])) N_ (j8 N_)
def UC (N_:Nat):LT:=ad (UB N_) 20 ⟨[.agg [.rof,.int .i64,.int .i64,.rof]],[]⟩ [.fs,.i,.i,.fs] (λS_ c_ ZT Zw Zz ZH=>S_ ZT Zw Zz ZH (λr0=>c_ (vwi r0) [])) N_ (sU N_)
def UD (N_:Nat):LT:=ad (UC N_) 59 ⟨[.slw 0,.agg [.int .i64,.int .i64,.slw 1],.ptr 2 0],[some (47,1,.flts),some (47,1,.flts),some (93,1,.cells [.bool])]⟩ [.i,.i,.fs,.fs,.b] (λS_ c_ p_0 p_1 b Y8 Za=>S_ p_0 p_1 b Y8 Za (λr0 r1 r2=>c_ (.tup [.agg [.nil,vwi r0,vwi r1,.nil],vwi r2]) [⟨47,1,.flts b⟩,⟨47,1,.flts Y8⟩,⟨93,1,.cells [.bool Za]⟩]) (λr2 r6=>c_ (.tup [.agg [.slw 0,vwi p_0,vwi p_1,.slw 3],vwi r2]) [⟨47,1,.flts b⟩,⟨47,1,.flts Y8⟩,⟨93,1,.cells [.bool Za]⟩,⟨47,1,.flts r6⟩])) N_ (MW N_)
def UE (N_:Nat):LT:=ad (UD N_) 23 ⟨[.agg [.rof,.int .i64,.int .i64,.rof],.agg [.int .i64,.int .i64,.rof],.agg [.int .i64,.int .i64,.rof]],[]⟩ [.fs,.i,.i,.fs,.i,.i,.fs,.i,.i,.fs] (λS_ c_ t_0 t_1 t_2 t_3 f_0 f_1 f_2 q_0 q_1 q_2=>S_ t_0 t_1 t_2 t_3 f_0 f_1 f_2 q_0 q_1 q_2 (λr0 r1 r2=>c_ (.tup [.agg [.nil,vwi r0,vwi r1,.nil],vwi r2]) []) (λr0 r1 r2 r3 r4=>c_ (.tup [.agg [.slw 0,vwi r0,vwi r1,.slw 1],vwi r2]) [⟨47,1,.flts r3⟩,⟨47,1,.flts r4⟩])) N_ (MX N_)
def UF (N_:Nat):LT:=ad (UE N_) 8 ⟨[.agg [.rof,.int .i64,.int .i64,.rof],.agg [.rl RT0],.int .i64],[]⟩ [.fs,.i,.i,.fs,.r RT0,.i] (λS_ c_ t_0 t_1 t_2 t_3 m ticks=>S_ t_0 t_1 t_2 t_3 m ticks (λr0 r1 r2=>c_ (.tup [.agg [.nil,vwi r0,vwi r1,.nil],vwi r2]) []) (λr0 r1 r2 r3 r4=>c_ (.tup [.agg [.slw 0,vwi r0,vwi r1,.slw 1],vwi r2]) [⟨47,1,.flts r3⟩,⟨47,1,.flts r4⟩])) N_ (vY N_)
def UG (N_:Nat):LT:=upM Pg km N_ fmd (UF N_) [28]
def UH (N_:Nat):LT:=ad (UG N_) 11 ⟨[.agg [.rof,.int .i64,.int .i64,.rof]],[]⟩ [.fs,.i,.i,.fs] (λS_ c_ ZT Zw Zz ZH=>S_ ZT Zw Zz ZH (λr0=>c_ (vwi r0) [])) N_ (ov N_)
def UI (N_:Nat):LT:=ad (UH N_) 47 ⟨[.ptr 0 0,.slw 1,.agg [.int .i64,.int .i64,.slw 2]],[some (81,1,.cells [.bool]),some (47,1,.flts),some (47,1,.flts)]⟩ [.i,.i,.b,.fs,.fs] (λS_ c_ p_0 p_1 b Y8 Za=>S_ p_0 p_1 b Y8 Za (λr0 r1 r2=>c_ (.tup [.agg [.nil,vwi r0,vwi r1,.nil],vwi r2]) [⟨81,1,.cells [.bool b]⟩,⟨47,1,.flts Y8⟩,⟨47,1,.flts Za⟩]) (λr2=>c_ (.tup [.agg [.slw 1,vwi p_0,vwi p_1,.slw 2],vwi r2]) [⟨81,1,.cells [.bool b]⟩,⟨47,1,.flts Y8⟩,⟨47,1,.flts Za⟩])) N_ (fD N_)
def UJ (N_:Nat):LT:=ad (UI N_) 19 ⟨[.agg [.rof,.int .i64,.int .i64,.rof],.agg [.int .i64,.int .i64,.rof],.agg [.int .i64,.int .i64,.rof]],[]⟩ [.fs,.i,.i,.fs,.i,.i,.fs,.i,.i,.fs] (λS_ c_ ZT Zw Zz ZH f_0 f_1 f_2 q_0 q_1 q_2=>S_ ZT Zw Zz ZH f_0 f_1 f_2 q_0 q_1 q_2 (λr0 r1 r2=>c_ (.tup [.agg [.nil,vwi r0,vwi r1,.nil],vwi r2]) []) (λr0 r1 r2 r3 r4=>c_ (.tup [.agg [.slw 0,vwi r0,vwi r1,.slw 1],vwi r2]) [⟨47,1,.flts r3⟩,⟨47,1,.flts r4⟩])) N_ (mb N_)
def UK (N_:Nat):LT:=ad (UJ N_) 6 ⟨[.agg [.rof,.int .i64,.int .i64,.rof],.agg [.rl RT0],.int .i64],[]⟩ [.fs,.i,.i,.fs,.r RT0,.i] (λS_ c_ ZT Zw Zz ZH m ticks=>S_ ZT Zw Zz ZH m ticks (λr0 r1 r2=>c_ (.tup [.agg [.nil,vwi r0,vwi r1,.nil],vwi r2]) []) (λr0 r1 r2 r3 r4=>c_ (.tup [.agg [.slw 0,vwi r0,vwi r1,.slw 1],vwi r2]) [⟨47,1,.flts r3⟩,⟨47,1,.flts r4⟩])) N_ (pL N_)
def UL (N_:Nat):LT:=ad (UK N_) 66 ⟨[.agg [.rof,.int .i64,.int .i64,.rof],.rof,.flt],[]⟩ [.fs,.i,.i,.fs,.fs,.f] (λS_ c_ ZT Zw Zz ZH h r=>S_ ZT Zw Zz ZH h r (λr0=>c_ (.tup [.val (.pointer none),vwi r0]) []) (λr0 r1 r8 r9 r10=>c_ (.tup [.ptr 0 0,vwi r0]) [⟨109,1,.cells [.bool r1,.rof ZT,vwi Zw,vwi Zz,.rof ZH,.rof h,.flt r,.flt r8,.slw 1,.nil,.flt r9]⟩,⟨47,1,.flts r10⟩])) N_ (pV N_)
def UM (N_:Nat):LT:=ao (UL N_) 47 ⟨[.ptr 0 0,.slw 1,.agg [.int .i64,.int .i64,.slw 2]],[some (109,1,.cells [.bool,.rof,.int .i64,.int .i64,.rof,.rof,.flt,.flt,.slw 3,.slw 4,.flt]),some (47,1,.flts),some (47,1,.flts),some (47,1,.flts),some (47,1,.flts)]⟩ [.i,.i,.b,.fs,.i,.i,.fs,.fs,.f,.f,.f,.fs,.fs,.fs,.fs] (λS_ c_ p_0 p_1 b Y8 Za Zf Zl Zr ZA Zx ZF ZL Zh ZK ZW=>S_ p_0 p_1 b Y8 Za Zf Zl Zr ZA Zx ZF ZL Zh ZK ZW (λr0 r1 r2=>c_ (.tup [.agg [.nil,vwi r0,vwi r1,.nil],vwi r2]) [⟨109,1,.cells [.bool b,.rof Y8,vwi Za,vwi Zf,.rof Zl,.rof Zr,.flt ZA,.flt Zx,.slw 3,.slw 4,.flt ZF]⟩,⟨47,1,.flts ZL⟩,⟨47,1,.flts Zh⟩,⟨47,1,.flts ZK⟩,⟨47,1,.flts ZW⟩]) (λr2=>c_ (.tup [.agg [.slw 1,vwi p_0,vwi p_1,.slw 2],vwi r2]) [⟨109,1,.cells [.bool b,.rof Y8,vwi Za,vwi Zf,.rof Zl,.rof Zr,.flt ZA,.flt Zx,.slw 3,.slw 4,.flt ZF]⟩,⟨47,1,.flts ZL⟩,⟨47,1,.flts Zh⟩,⟨47,1,.flts ZK⟩,⟨47,1,.flts ZW⟩])) N_ (fi N_)
def UN (N_:Nat):LT:=ad (UM N_) 30 ⟨[.agg [.rof,.int .i64,.int .i64,.rof],.rof,.flt,.flt,.fn 31 []],[]⟩ [.fs,.i,.i,.fs,.fs,.f,.f] (λS_ c_ ZT Zw Zz ZH h r z=>S_ ZT Zw Zz ZH h r z (λr0 r1 r2 r3 r4 r5=>c_ (.tup [.agg [.nil,vwi r0,vwi r1,.nil],.agg [.flt r2,.flt r3,.flt r4,.nil],vwi r5]) []) (λr0 r1 r2 r3 r4 r5 r6=>c_ (.tup [.agg [.nil,vwi r0,vwi r1,.nil],.agg [.flt r2,.flt r3,.flt r4,.slw 0],vwi r5]) [⟨47,1,.flts r6⟩]) (λr0 r1 r2 r3 r4 r5 r6 r7 r8=>c_ (.tup [.agg [.slw 0,vwi r0,vwi r1,.slw 1],.agg [.flt r2,.flt r3,.flt r4,.slw 2],vwi r5]) [⟨47,1,.flts r6⟩,⟨47,1,.flts r7⟩,⟨47,1,.flts r8⟩])) N_ (pc N_)
def UO (N_:Nat):LT:=ad (UN N_) 13 ⟨[.agg [.rof,.int .i64,.int .i64,.rof],.rof,.flt,.flt],[]⟩ [.fs,.i,.i,.fs,.fs,.f,.f] (λS_ c_ ZT Zw Zz ZH h r z=>S_ ZT Zw Zz ZH h r z (λr0 r1 r2 r3 r4 r5=>c_ (.tup [.agg [.nil,vwi r0,vwi r1,.nil],.agg [.flt r2,.flt r3,.flt r4,.nil],vwi r5]) []) (λr0 r1 r2 r3 r4 r5 r6=>c_ (.tup [.agg [.nil,vwi r0,vwi r1,.nil],.agg [.flt r2,.flt r3,.flt r4,.slw 0],vwi r5]) [⟨47,1,.flts r6⟩]) (λr0 r1 r2 r3 r4 r5 r6 r7 r8=>c_ (.tup [.agg [.slw 0,vwi r0,vwi r1,.slw 1],.agg [.flt r2,.flt r3,.flt r4,.slw 2],vwi r5]) [⟨47,1,.flts r6⟩,⟨47,1,.flts r7⟩,⟨47,1,.flts r8⟩])) N_ (rQ N_)
def UP (N_:Nat):LT:=ad (UO N_) 10 ⟨[],[]⟩ [] (λS_ c_=>S_ (λr0=>c_ (.bool r0) [])) N_ (V5 N_)
def PK:FnSh:=⟨[.roi .u64,.int .i64,.roi .u64,.agg [.rl RT0],.int .i64],[]⟩
end
theorem Qf (w:World) (v:Value):Calls Tryz.prog 98 #[.nilIface,v] w λe w'=>e=.returned v/\w'=w:=
 Qg (P:=Tryz.prog) (fc:=98) (fn:=Tryz.f98) (by kernel_rfl) (by kernel_rfl) (by kernel_rfl) rfl rfl rfl rfl rfl rfl rfl rfl rfl rfl rfl rfl rfl rfl rfl rfl rfl rfl rfl (λ_=>rfl) (λ_=>by kernel_rfl) w v
theorem W8:CR Tryz.prog 97:=
 N3 (P:=Tryz.prog) (g:=97) (fc:=98) (fg:=Tryz.f97) (ff:=Tryz.f98) (by kernel_rfl) (by kernel_rfl) (by kernel_rfl) (by kernel_rfl) rfl (by kernel_rfl) (by kernel_rfl) (by kernel_rfl) (by kernel_rfl) (by kernel_rfl) rfl rfl rfl rfl rfl rfl rfl rfl rfl rfl rfl (by kernel_rfl) (by kernel_rfl) Qf
theorem hD_:HD Tryz.prog km:=by
 intro g hg h;have e:g=97:=by have h:=GJ h; simp at h; omega
 rcases e with rfl
 exact W8
end Go.Proofs.YtbiingchhnlcnaaGreatDoor
end
