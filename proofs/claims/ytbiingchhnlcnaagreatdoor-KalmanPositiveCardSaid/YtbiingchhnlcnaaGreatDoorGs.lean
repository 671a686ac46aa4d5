/- The program's functions and their ties. Conditions: none. -/
import Derived.Test.YtbiingchhnlcnaaGreatDoorGp
import Derived.Test.YtbiingchhnlcnaaGreatDoorMachT
import Derived.Test.YtbiingchhnlcnaaGreatDoorProg
set_option linter.unusedVariables false
section
namespace Go.Proofs.YtbiingchhnlcnaaGreatDoor
open Go Go.Mach Go.Proofs
set_option maxRecDepth 50000
abbrev KV:=V->List Blk->Bool
abbrev SPT:=List Atom->KV->Bool
noncomputable abbrev Pg:Program:=Tryz.prog
def vqs:Nat → List V → List V
  | 0,t=>t
  | n+1,t=>.any::vqs n t
abbrev vwi (z:Int):V:=.int .i64 z
abbrev vwu (z:Int):V:=.int .u64 z
abbrev vwv (z:Int):V:=.int .u32 z
abbrev vwr (l:LI):V:=.roi .u64 l
abbrev vws (l:LI):V:=.roi .u32 l
theorem UO {p:Nat → Prop} (h:p 0):∀ i,i<1 → p i
 | 0,_=>h
 | _+1,g=>by omega
theorem T9 {p:Nat → Prop} (h:p 0) (h1:p 1):∀ i,i<2 → p i
 | 0,_=>h
 | 1,_=>h1
 | _+2,g=>by omega
def sqs:Nat → List Sh → List Sh
 | 0,t=>t
 | n+1,t=>.any::sqs n t
noncomputable def jp:Nat->Bool:=NL [88,108,175,166,56,216,179,244,255,7,59,53,52,47,43,42,41,115,135,112,114,132,134,155,126,189,158,127,100,185,251,245,170,211,212,1000257,1000231,1000230,1000089,2000097,3000041,3000067,3000046,4000138,4000078]
abbrev LT:=List (Nat × Fs)
abbrev TbS (A B:Nat->LT):Prop:=∀ N,OKL Pg jp (A N)->OKL Pg jp (B N)
noncomputable def fmd:Nat->Nat:=λg=>(cond (NL [113,129,150,151,152,153,154,166,167,168,179,180,181,188,194,196,198,226,241,251] g) 1 (cond (NL [156,159,160,190,191] g) 2 0))
noncomputable section
def L0 (N_:Nat):LT:=[]
def TZ:FnSh:=⟨[.fb],[]⟩
def QE (agR:Mm):SPT:=λa_ c_=>match a_ with
 | [.nat a0]=>agR a0 (λr0=>c_ (vwu r0) [])
 | _=>false
abbrev T_ (agR:Mm):Fs:=kp TZ (QE agR)
def L1 (N_:Nat):LT:=(93,(T_ (D0 N_)))::L0 N_
def P1:FnSh:=⟨[.int .u64],[]⟩
def On (agc:GU):SPT:=λa_ c_=>match a_ with
 | [.int a0]=>agc a0 (λr0=>c_ (.flt r0) [])
 | _=>false
abbrev P6 (agc:GU):Fs:=kp P1 (On agc)
def L2 (N_:Nat):LT:=(29,(P6 (Be N_)))::L1 N_
def L3 (N_:Nat):LT:=ad (L2 N_) 12 ⟨[.roi .u64],[]⟩ [.is] (λS_ c_ l=>S_ l (λr0=>c_ (.slw 0) [⟨47,1,.flts r0⟩])) N_ (vI N_)
def Jn:FnSh:=⟨[.flt],[]⟩
def Om (agb:GT):SPT:=λa_ c_=>match a_ with
 | [.fl a0]=>agb a0 (λr0=>c_ (vwu r0) [])
 | _=>false
abbrev P5 (agb:GT):Fs:=kp Jn (Om agb)
def L4 (N_:Nat):LT:=(93,(DU (P5 (CW N_)) (ofL (L3 N_) 93) Jn))::L3 N_
def L5 (N_:Nat):LT:=ad (L4 N_) 215 ⟨[.int .u64],[]⟩ [.i] (λS_ c_ x=>S_ x (λr0=>c_ (vwi r0) [])) N_ (OH N_)
def L6 (N_:Nat):LT:=ad (L5 N_) 216 ⟨[.slw 0],[some (43,1,.ints .u64)]⟩ [.is] (λS_ c_ b=>S_ b (λr0=>c_ (.sl 0 0 r0) [⟨43,1,.ints .u64 b⟩])) N_ (Q1 N_)
def L7 (N_:Nat):LT:=ad (L6 N_) 182 ⟨[.roi .u64,.int .u64],[]⟩ [.is,.i] (λS_ c_ x n=>S_ x n (λr0=>c_ (vwr r0) [])) N_ (vD N_)
def L8 (N_:Nat):LT:=ad (L7 N_) 218 ⟨[.roi .u64,.roi .u64],[]⟩ [.is,.is] (λS_ c_ x y=>S_ x y (λr0=>c_ (vwi r0) [])) N_ (Lw N_)
def L9 (N_:Nat):LT:=ad (L8 N_) 250 ⟨[.int .u64],[]⟩ [.i] (λS_ c_ x=>S_ x (λr0=>c_ (vwi r0) [])) N_ (Rm N_)
def L10 (N_:Nat):LT:=ad (L9 N_) 237 ⟨[.roi .u64],[]⟩ [.is] (λS_ c_ x=>S_ x (λr0=>c_ (vwi r0) [])) N_ (qF N_)
def L11 (N_:Nat):LT:=ad (L10 N_) 238 ⟨[.int .u64,.int .u64],[]⟩ [.i,.i] (λS_ c_ x y=>S_ x y (λr0 r1 r2 r3 r4=>c_ (.agg [vwu r0,vwu r1,vwu r2,vwu r3,.bool r4]) [])) N_ (yk N_)
def L12 (N_:Nat):LT:=ad (L11 N_) 246 ⟨[.int .u64,.int .u64],[]⟩ [.i,.i] (λS_ c_ x y=>S_ x y (λr0 r1=>c_ (.tup [vwu r0,vwu r1]) [])) N_ (Lr N_)
def U0:FnSh:=⟨[.int .u64,.int .u64,.int .u64],[]⟩
def U6 (SQ3:S8):SPT:=λa_ c_=>match a_ with
 | [.int a0,.int a1,.int a2]=>SQ3 a0 a1 a2 (λr0 r1=>c_ (.tup [vwu r0,vwu r1]) [])
 | _=>false
abbrev FQ3 (SQ3:S8):Fs:=kp U0 (U6 SQ3)
def L13 (N_:Nat):LT:=(247,(FQ3 (sQ3 N_)))::L12 N_
def L14 (N_:Nat):LT:=ad (L13 N_) 220 ⟨[.int .u64,.int .u64,.int .u64,.int .u64],[]⟩ [.i,.i,.i,.i] (λS_ c_ a b c d=>S_ a b c d (λr0 r1=>c_ (.tup [vwu r0,vwu r1]) [])) N_ (vC N_)
def L15 (N_:Nat):LT:=ad (L14 N_) 253 ⟨[.roi .u64,.int .u64,.int .u64],[]⟩ [.is,.i,.i] (λS_ c_ x d more=>S_ x d more (λr0=>c_ (vwr r0) [])) N_ (LD N_)
def U2:FnSh:=⟨[.int .u64,.int .u64,.int .u64],[]⟩
def U7 (SQ6:S9):SPT:=λa_ c_=>match a_ with
 | [.int a0,.int a1,.int a2]=>SQ6 a0 a1 a2 (λr0 r1=>c_ (.tup [vwu r0,vwu r1]) [])
 | _=>false
abbrev FQ6 (SQ6:S9):Fs:=kp U2 (U7 SQ6)
def L16 (N_:Nat):LT:=(256,(FQ6 (sQ6 N_)))::L15 N_
def L17 (N_:Nat):LT:=ao (L16 N_) 216 ⟨[.sl 0],[some (43,1,.ints .u64)]⟩ [.n,.n,.is] (λS_ c_ X1 Xm b=>S_ X1 Xm b (λr1=>c_ (.sl 0 X1 r1) [⟨43,1,.ints .u64 b⟩])) N_ (qG N_)
def L18 (N_:Nat):LT:=ad (L17 N_) 186 ⟨[.roi .u64,.roi .u64],[]⟩ [.is,.is] (λS_ c_ x y=>S_ x y (λr0=>c_ (vwr r0) [])) N_ (Rx N_)
def L19 (N_:Nat):LT:=ad (L18 N_) 155 ⟨[.agg [.int .i64,.int .i64,.slw 0],.int .i64,.int .i64],[some (169,1,.recs RT1)]⟩ [.i,.i,.i,.i,.r RT1] (λS_ c_ g_0 YU i j b=>S_ g_0 YU i j b (λr0 r1 r2 r3=>c_ (.agg [.rp [.bool r0,vwr r1,.bool r2,vwr r3] 0]) [⟨169,1,.recs RT1 b⟩])) N_ (fv N_)
def L20 (N_:Nat):LT:=ad (L19 N_) 223 ⟨[.rp [.bool,.roi .u64,.bool,.roi .u64] 0],[]⟩ [.b,.is,.b,.is] (λS_ c_ X1 Xm XV X9=>S_ X1 Xm XV X9 (λr0=>c_ (vwi r0) [])) N_ (LX N_)
def L21 (N_:Nat):LT:=ad (L20 N_) 42 ⟨[.agg [.int .i64,.int .i64,.rof],.int .i64],[]⟩ [.i,.i,.fs,.i] (λS_ c_ XK W9 Xu i=>S_ XK W9 Xu i (λr0=>c_ (.rof r0) [])) N_ (qJ N_)
def K3:FnSh:=⟨[.flt],[]⟩
def Bm (aec:zY):SPT:=λa_ c_=>match a_ with
 | [.fl x]=>aec x (λr0=>c_ (.flt r0) [])
 | _=>false
abbrev Ir (aec:zY):Fs:=kp K3 (Bm aec)
def L22 (N_:Nat):LT:=(110,(Ir (xl N_)))::L21 N_
def Oh:FnSh:=⟨[.fb],[]⟩
def Oq (agT:Qf):SPT:=λa_ c_=>match a_ with
 | [.nat x]=>agT x (λr0=>c_ (.flt r0) [])
 | _=>false
abbrev QJ (agT:Qf):Fs:=kp Oh (Oq agT)
def L23 (N_:Nat):LT:=ad (L22 N_) 77 ⟨[.flt,.int .i64],[]⟩ [.f,.i] (λS_ c_ f sign=>S_ f sign (λr0=>c_ (.bool r0) [])) N_ (uj N_)
def L24 (N_:Nat):LT:=ad1 1 (L23 N_) 46 ⟨[.ptr 0 0,.flt],[some (109,1,.cells [.bool,.rof,.int .i64,.int .i64,.rof,.rof,.flt,.flt,.nil,.nil,.flt])]⟩ [.f,.b,.fs,.i,.i,.fs,.fs,.f,.f,.f] (λS_ c_ x b W0 W2 W7 Xd Xe Xn Xk Xw=>S_ x b W0 W2 W7 Xd Xe Xn Xk Xw (λr1=>c_ (.flt x) (.bool r1))) N_ (rJ N_)
def L25 (N_:Nat):LT:=ad1 1 (L24 N_) 67 ⟨[.ptr 0 0,.flt,.flt],[some (109,1,.cells [.bool,.rof,.int .i64,.int .i64,.rof,.rof,.flt,.flt,.nil,.nil,.flt])]⟩ [.f,.f,.b,.fs,.i,.i,.fs,.fs,.f,.f,.f] (λS_ c_ a b W0 W2 W7 Xd Xe Xn Xk Xw Xy=>S_ a b W0 W2 W7 Xd Xe Xn Xk Xw Xy (λr0 r1=>c_ (.flt r0) (.bool r1))) N_ (pW N_)
def L26 (N_:Nat):LT:=ad1 1 (L25 N_) 41 ⟨[.ptr 0 0,.rof,.rof],[some (109,1,.cells [.bool,.rof,.int .i64,.int .i64,.rof,.rof,.flt,.flt,.nil,.nil,.flt])]⟩ [.fs,.fs,.b,.fs,.i,.i,.fs,.fs,.f,.f,.f] (λS_ c_ a b W0 W2 W7 Xd Xe Xn Xk Xw Xy=>S_ a b W0 W2 W7 Xd Xe Xn Xk Xw Xy (λr0 r1=>c_ (.flt r0) (.bool r1))) N_ (xx N_)
def L27 (N_:Nat):LT:=ao1 1 (L26 N_) 46 ⟨[.ptr 0 0,.flt],[some (109,1,.cells [.bool,.rof,.int .i64,.int .i64,.rof,.rof,.flt,.flt,.slw 1,.nil,.flt]),some (47,1,.flts)]⟩ [.f,.b,.fs,.i,.i,.fs,.fs,.f,.f,.f,.fs] (λS_ c_ x b W0 W2 W7 Xd Xe Xn Xk Xw Xy=>S_ x b W0 W2 W7 Xd Xe Xn Xk Xw Xy (λr1=>c_ (.flt x) (.bool r1))) N_ (QV N_)
def L28 (N_:Nat):LT:=ao1 1 (L27 N_) 67 ⟨[.ptr 0 0,.flt,.flt],[some (109,1,.cells [.bool,.rof,.int .i64,.int .i64,.rof,.rof,.flt,.flt,.slw 1,.nil,.flt]),some (47,1,.flts)]⟩ [.f,.f,.b,.fs,.i,.i,.fs,.fs,.f,.f,.f,.fs] (λS_ c_ a b W0 W2 W7 Xd Xe Xn Xk Xw Xy W5=>S_ a b W0 W2 W7 Xd Xe Xn Xk Xw Xy W5 (λr0 r1=>c_ (.flt r0) (.bool r1))) N_ (Rl N_)
def L29 (N_:Nat):LT:=ao1 1 (L28 N_) 41 ⟨[.ptr 0 0,.rof,.rof],[some (109,1,.cells [.bool,.rof,.int .i64,.int .i64,.rof,.rof,.flt,.flt,.slw 1,.nil,.flt]),some (47,1,.flts)]⟩ [.fs,.fs,.b,.fs,.i,.i,.fs,.fs,.f,.f,.f,.fs] (λS_ c_ a b W0 W2 W7 Xd Xe Xn Xk Xw Xy W5=>S_ a b W0 W2 W7 Xd Xe Xn Xk Xw Xy W5 (λr0 r1=>c_ (.flt r0) (.bool r1))) N_ (Rk N_)
def L30 (N_:Nat):LT:=ao1 1 (L29 N_) 41 ⟨[.ptr 0 0,.rof,.slw 1],[some (109,1,.cells [.bool,.rof,.int .i64,.int .i64,.rof,.rof,.flt,.flt,.slw 1,.nil,.flt]),some (47,1,.flts)]⟩ [.fs,.b,.fs,.i,.i,.fs,.fs,.f,.f,.f,.fs] (λS_ c_ a b W0 W2 W7 Xd Xe Xn Xk Xw Xy=>S_ a b W0 W2 W7 Xd Xe Xn Xk Xw Xy (λr0 r1=>c_ (.flt r0) (.bool r1))) N_ (Rf N_)
def L31 (N_:Nat):LT:=ad1 2 (L30 N_) 78 ⟨[.ptr 0 0],[some (109,1,.cells [.bool,.rof,.int .i64,.int .i64,.rof,.rof,.flt,.flt,.slw 1,.nil,.flt]),some (47,1,.flts)]⟩ [.b,.fs,.i,.i,.fs,.fs,.f,.f,.f,.fs] (λS_ c_ b W0 W2 W7 Xd Xe Xn Xk Xw Xy=>S_ b W0 W2 W7 Xd Xe Xn Xk Xw Xy (c_ (.bool b) (.any))) N_ (Lp N_)
def L32 (N_:Nat):LT:=ao1 1 (L31 N_) 46 ⟨[.ptr 0 0,.flt],[some (109,1,.cells [.bool,.rof,.int .i64,.int .i64,.rof,.rof,.flt,.flt,.slw 1,.slw 2,.flt]),some (47,1,.flts),some (47,1,.flts)]⟩ [.f,.b,.fs,.i,.i,.fs,.fs,.f,.f,.f,.fs,.fs] (λS_ c_ x b W0 W2 W7 Xd Xe Xn Xk Xw Xy W5=>S_ x b W0 W2 W7 Xd Xe Xn Xk Xw Xy W5 (λr1=>c_ (.flt x) (.bool r1))) N_ (GQ4 N_)
def L33 (N_:Nat):LT:=ao1 1 (L32 N_) 67 ⟨[.ptr 0 0,.flt,.flt],[some (109,1,.cells [.bool,.rof,.int .i64,.int .i64,.rof,.rof,.flt,.flt,.slw 1,.slw 2,.flt]),some (47,1,.flts),some (47,1,.flts)]⟩ [.f,.f,.b,.fs,.i,.i,.fs,.fs,.f,.f,.f,.fs,.fs] (λS_ c_ a b W0 W2 W7 Xd Xe Xn Xk Xw Xy W5 Xo=>S_ a b W0 W2 W7 Xd Xe Xn Xk Xw Xy W5 Xo (λr0 r1=>c_ (.flt r0) (.bool r1))) N_ (GQ5 N_)
def L34 (N_:Nat):LT:=ao (L33 N_) 42 ⟨[.agg [.int .i64,.int .i64,.slw 0],.int .i64],[some (47,1,.flts)]⟩ [.i,.i,.i,.fs] (λS_ c_ XK W9 i b=>S_ XK W9 i b (λr0 r1=>c_ (.sl 0 r0 r1) [⟨47,1,.flts b⟩])) N_ (oq N_)
def L35 (N_:Nat):LT:=ad (L34 N_) 76 ⟨[.agg [.int .i64,.int .i64,.rof],.int .i64],[]⟩ [.i,.i,.fs,.i] (λS_ c_ XK W9 Xu j=>S_ XK W9 Xu j (λr0=>c_ (.slw 0) [⟨47,1,.flts r0⟩])) N_ (qI N_)
def L36 (N_:Nat):LT:=ao1 1 (L35 N_) 41 ⟨[.ptr 0 0,.sl 1,.slw 2],[some (109,1,.cells [.bool,.rof,.int .i64,.int .i64,.rof,.rof,.flt,.flt,.slw 3,.slw 4,.flt]),some (47,1,.flts),some (47,1,.flts),some (47,1,.flts),some (47,1,.flts)]⟩ [.n,.n,.b,.fs,.i,.i,.fs,.fs,.f,.f,.f,.fs,.fs,.fs,.fs] (λS_ c_ a_0 XP b W0 W2 W7 Xd Xe Xn Xk Xw Xy W5 Xo XR=>S_ a_0 XP b W0 W2 W7 Xd Xe Xn Xk Xw Xy W5 Xo XR (λr0 r1=>c_ (.flt r0) (.bool r1))) N_ (QY N_)
def L37 (N_:Nat):LT:=ad (L36 N_) 43 ⟨[.ptr 0 0,.agg [.int .i64,.int .i64,.slw 1],.agg [.int .i64,.int .i64,.rof]],[some (109,1,.cells [.bool,.rof,.int .i64,.int .i64,.rof,.rof,.flt,.flt,.slw 2,.slw 3,.flt]),some (47,1,.flts),some (47,1,.flts),some (47,1,.flts)]⟩ [.i,.i,.i,.i,.fs,.b,.fs,.i,.i,.fs,.fs,.f,.f,.f,.fs,.fs,.fs] (λS_ c_ a_0 XP b_0 W0 W2 b W7 Xd Xe Xn Xk Xw Xy W5 Xo XR XZ=>S_ a_0 XP b_0 W0 W2 b W7 Xd Xe Xn Xk Xw Xy W5 Xo XR XZ (λr2 r14=>c_ (.agg [vwi a_0,vwi W0,.slw 4]) [⟨109,1,.cells [.bool r2,.rof W7,vwi Xd,vwi Xe,.rof Xn,.rof Xk,.flt Xw,.flt Xy,.slw 2,.slw 3,.flt W5]⟩,⟨47,1,.flts Xo⟩,⟨47,1,.flts XR⟩,⟨47,1,.flts XZ⟩,⟨47,1,.flts r14⟩])) N_ (dz N_)
def L38 (N_:Nat):LT:=ao1 1 (L37 N_) 41 ⟨[.ptr 0 0,.sl 1,.sl 2],[some (109,1,.cells [.bool,.rof,.int .i64,.int .i64,.rof,.rof,.flt,.flt,.slw 3,.slw 4,.flt]),some (47,1,.flts),some (47,1,.flts),some (47,1,.flts),some (47,1,.flts)]⟩ [.n,.n,.n,.n,.b,.fs,.i,.i,.fs,.fs,.f,.f,.f,.fs,.fs,.fs,.fs] (λS_ c_ a_0 XP b_0 W0 b W2 W7 Xd Xe Xn Xk Xw Xy W5 Xo XR XZ=>S_ a_0 XP b_0 W0 b W2 W7 Xd Xe Xn Xk Xw Xy W5 Xo XR XZ (λr0 r1=>c_ (.flt r0) (.bool r1))) N_ (QX N_)
def L39 (N_:Nat):LT:=ad (L38 N_) 68 ⟨[.int .i64,.int .i64,.ptr 0 0,.ptr 1 0,.ptr 2 0],[some (68,1,.cells [.ptr 3 0]),some (28,1,.cells [.int .i64,.int .i64,.slw 4]),some (28,1,.cells [.int .i64,.int .i64,.slw 5]),some (109,1,.cells [.bool,.rof,.int .i64,.int .i64,.rof,.rof,.flt,.flt,.slw 6,.slw 7,.flt]),some (47,1,.flts),some (47,1,.flts),some (47,1,.flts),some (47,1,.flts)]⟩ [.i,.i,.i,.i,.i,.i,.b,.fs,.i,.i,.fs,.fs,.f,.f,.f,.fs,.fs,.fs,.fs] (λS_ c_ i j b W0 W2 W7 Xd Xe Xn Xk Xw Xy W5 Xo XR XZ Yw YF Ya=>S_ i j b W0 W2 W7 Xd Xe Xn Xk Xw Xy W5 Xo XR XZ Yw YF Ya (λr0 r5=>c_ (.flt r0) [⟨68,1,.cells [.ptr 3 0]⟩,⟨28,1,.cells [vwi b,vwi W0,.slw 4]⟩,⟨28,1,.cells [vwi W2,vwi W7,.slw 5]⟩,⟨109,1,.cells [.bool r5,.rof Xe,vwi Xn,vwi Xk,.rof Xw,.rof Xy,.flt W5,.flt Xo,.slw 6,.slw 7,.flt XR]⟩,⟨47,1,.flts XZ⟩,⟨47,1,.flts Yw⟩,⟨47,1,.flts YF⟩,⟨47,1,.flts Ya⟩])) N_ (bv N_)
def L40 (N_:Nat):LT:=ad (L39 N_) 44 ⟨[.int .i64,.fn 68 [.ptr 0 0,.ptr 1 0,.ptr 2 0]],[some (68,1,.cells [.ptr 3 0]),some (28,1,.cells [.int .i64,.int .i64,.slw 4]),some (28,1,.cells [.int .i64,.int .i64,.slw 5]),some (109,1,.cells [.bool,.rof,.int .i64,.int .i64,.rof,.rof,.flt,.flt,.slw 6,.slw 7,.flt]),some (47,1,.flts),some (47,1,.flts),some (47,1,.flts),some (47,1,.flts)]⟩ [.i,.i,.i,.i,.i,.b,.fs,.i,.i,.fs,.fs,.f,.f,.f,.fs,.fs,.fs,.fs] (λS_ c_ n b W0 W2 W7 Xd Xe Xn Xk Xw Xy W5 Xo XR XZ Yw YF Ya=>S_ n b W0 W2 W7 Xd Xe Xn Xk Xw Xy W5 Xo XR XZ Yw YF Ya (λr6 r19=>c_ (.agg [vwi n,vwi n,.slw 8]) [⟨68,1,.cells [.ptr 3 0]⟩,⟨28,1,.cells [vwi b,vwi W0,.slw 4]⟩,⟨28,1,.cells [vwi W2,vwi W7,.slw 5]⟩,⟨109,1,.cells [.bool r6,.rof Xe,vwi Xn,vwi Xk,.rof Xw,.rof Xy,.flt W5,.flt Xo,.slw 6,.slw 7,.flt XR]⟩,⟨47,1,.flts XZ⟩,⟨47,1,.flts Yw⟩,⟨47,1,.flts YF⟩,⟨47,1,.flts Ya⟩,⟨47,1,.flts r19⟩])) N_ (cD N_)
def L41 (N_:Nat):LT:=ad (L40 N_) 32 ⟨[.ptr 0 0],[some (109,1,.cells [.bool,.rof,.int .i64,.int .i64,.rof,.rof,.flt,.flt,.slw 1,.slw 2,.flt]),some (47,1,.flts),some (47,1,.flts)]⟩ [.b,.fs,.i,.i,.fs,.fs,.f,.f,.f,.fs,.fs] (λS_ c_ b W0 W2 W7 Xd Xe Xn Xk Xw Xy W5=>S_ b W0 W2 W7 Xd Xe Xn Xk Xw Xy W5 (λr0 r1 r2 r13=>c_ (.agg [vwi r0,vwi r1,.slw 3]) [⟨109,1,.cells [.bool r2,.rof W0,vwi W2,vwi W7,.rof Xd,.rof Xe,.flt Xn,.flt Xk,.slw 1,.slw 2,.flt Xw]⟩,⟨47,1,.flts Xy⟩,⟨47,1,.flts W5⟩,⟨47,1,.flts r13⟩])) N_ (cQ N_)
def L42 (N_:Nat):LT:=ao1 2 (L41 N_) 78 ⟨[.ptr 0 0],[some (109,1,.cells [.bool,.rof,.int .i64,.int .i64,.rof,.rof,.flt,.flt,.slw 1,.slw 2,.flt]),some (47,1,.flts),some (47,1,.flts)]⟩ [.b,.fs,.i,.i,.fs,.fs,.f,.f,.f,.fs,.fs] (λS_ c_ b W0 W2 W7 Xd Xe Xn Xk Xw Xy W5=>S_ b W0 W2 W7 Xd Xe Xn Xk Xw Xy W5 (c_ (.bool b) (.any))) N_ (OK N_)
def L43 (N_:Nat):LT:=ad (L42 N_) 69 ⟨[.int .i64,.int .i64,.ptr 0 0,.ptr 1 0],[some (68,1,.cells [.ptr 2 0]),some (3,1,.cells [.int .i64]),some (109,1,.cells [.bool,.rof,.int .i64,.int .i64,.rof,.rof,.flt,.flt,.slw 3,.slw 4,.flt]),some (47,1,.flts),some (47,1,.flts)]⟩ [.i,.i,.i,.b,.fs,.i,.i,.fs,.fs,.f,.f,.f,.fs,.fs] (λS_ c_ i j b W0 W2 W7 Xd Xe Xn Xk Xw Xy W5 Xo=>S_ i j b W0 W2 W7 Xd Xe Xn Xk Xw Xy W5 Xo (λr0 r2=>c_ (.flt r0) [⟨68,1,.cells [.ptr 2 0]⟩,⟨3,1,.cells [vwi b]⟩,⟨109,1,.cells [.bool r2,.rof W2,vwi W7,vwi Xd,.rof Xe,.rof Xn,.flt Xk,.flt Xw,.slw 3,.slw 4,.flt Xy]⟩,⟨47,1,.flts W5⟩,⟨47,1,.flts Xo⟩])) N_ (cb N_)
def L44 (N_:Nat):LT:=ao (L43 N_) 44 ⟨[.int .i64,.fn 69 [.ptr 0 0,.ptr 1 0]],[some (68,1,.cells [.ptr 2 0]),some (3,1,.cells [.int .i64]),some (109,1,.cells [.bool,.rof,.int .i64,.int .i64,.rof,.rof,.flt,.flt,.slw 3,.slw 4,.flt]),some (47,1,.flts),some (47,1,.flts)]⟩ [.i,.i,.b,.fs,.i,.i,.fs,.fs,.f,.f,.f,.fs,.fs] (λS_ c_ n b W0 W2 W7 Xd Xe Xn Xk Xw Xy W5 Xo=>S_ n b W0 W2 W7 Xd Xe Xn Xk Xw Xy W5 Xo (λr3 r14=>c_ (.agg [vwi n,vwi n,.slw 5]) [⟨68,1,.cells [.ptr 2 0]⟩,⟨3,1,.cells [vwi b]⟩,⟨109,1,.cells [.bool r3,.rof W2,vwi W7,vwi Xd,.rof Xe,.rof Xn,.flt Xk,.flt Xw,.slw 3,.slw 4,.flt Xy]⟩,⟨47,1,.flts W5⟩,⟨47,1,.flts Xo⟩,⟨47,1,.flts r14⟩])) N_ (dy N_)
def L45 (N_:Nat):LT:=ad (L44 N_) 34 ⟨[.ptr 0 0],[some (109,1,.cells [.bool,.rof,.int .i64,.int .i64,.rof,.rof,.flt,.flt,.slw 1,.slw 2,.flt]),some (47,1,.flts),some (47,1,.flts)]⟩ [.b,.fs,.i,.i,.fs,.fs,.f,.f,.f,.fs,.fs] (λS_ c_ b W0 W2 W7 Xd Xe Xn Xk Xw Xy W5=>S_ b W0 W2 W7 Xd Xe Xn Xk Xw Xy W5 (λr0 r1 r2 r13=>c_ (.agg [vwi r0,vwi r1,.slw 3]) [⟨109,1,.cells [.bool r2,.rof W0,vwi W2,vwi W7,.rof Xd,.rof Xe,.flt Xn,.flt Xk,.slw 1,.slw 2,.flt Xw]⟩,⟨47,1,.flts Xy⟩,⟨47,1,.flts W5⟩,⟨47,1,.flts r13⟩])) N_ (cY N_)
def L46 (N_:Nat):LT:=ad (L45 N_) 104 ⟨[.int .i64,.int .i64,.int .i64],[]⟩ [.i,.i,.i] (λS_ c_ rows cols n=>S_ rows cols n (λr0=>c_ (vwi r0) [])) N_ (sK N_)
def L47 (N_:Nat):LT:=ad (L46 N_) 143 ⟨[.int .i64,.int .u64,.int .i64],[]⟩ [.i,.i,.i] (λS_ c_ exp frac most=>S_ exp frac most (λr0=>c_ (vwi r0) [])) N_ (Ma N_)
def L48 (N_:Nat):LT:=ad (L47 N_) 228 ⟨[.int .u64,.int .i64],[]⟩ [.i,.i] (λS_ c_ m e=>S_ m e (λr0 r1=>c_ (.tup [vwu r0,vwi r1]) [])) N_ (um N_)
def L49 (N_:Nat):LT:=ad (L48 N_) 175 ⟨[.slw 0],[some (218,1,.ints .u32)]⟩ [.is] (λS_ c_ b=>S_ b (λr0=>c_ (.sl 0 0 r0) [⟨218,1,.ints .u32 b⟩])) N_ (QT N_)
def L50 (N_:Nat):LT:=ad (L49 N_) 229 ⟨[.int .u64],[]⟩ [.i] (λS_ c_ n=>S_ n (λr0=>c_ (vws r0) [])) N_ (LQ N_)
def L51 (N_:Nat):LT:=ao (L50 N_) 175 ⟨[.roi .u32],[]⟩ [.is] (λS_ c_ m=>S_ m (λr0=>c_ (vws r0) [])) N_ (xz N_)
def L52 (N_:Nat):LT:=ad (L51 N_) 210 ⟨[.roi .u32,.int .u64],[]⟩ [.is,.i] (λS_ c_ m n=>S_ m n (λr0=>c_ (vws r0) [])) N_ (vG N_)
def L53 (N_:Nat):LT:=ad (L52 N_) 203 ⟨[.int .u32],[]⟩ [.i] (λS_ c_ x=>S_ x (λr0=>c_ (vwi r0) [])) N_ (OG N_)
def L54 (N_:Nat):LT:=ad (L53 N_) 169 ⟨[.ptr 0 0],[some (153,1,.cells [.bool,.roi .u32])]⟩ [.b,.is] (λS_ c_ b W0=>S_ b W0 (λr0=>c_ (vwu r0) [⟨153,1,.cells [.bool b,vws W0]⟩])) N_ (GQ2 N_)
def L55 (N_:Nat):LT:=ad (L54 N_) 170 ⟨[.roi .u32,.int .u64],[]⟩ [.is,.i] (λS_ c_ m n=>S_ m n (λr0=>c_ (vws r0) [])) N_ (Rn N_)
def L56 (N_:Nat):LT:=ad (L55 N_) 204 ⟨[.int .u32],[]⟩ [.i] (λS_ c_ x=>S_ x (λr0=>c_ (vwi r0) [])) N_ (Lz N_)
def L57 (N_:Nat):LT:=ad (L56 N_) 171 ⟨[.ptr 0 0],[some (153,1,.cells [.bool,.roi .u32])]⟩ [.b,.is] (λS_ c_ b W0=>S_ b W0 (λr0=>c_ (vwi r0) [⟨153,1,.cells [.bool b,vws W0]⟩])) N_ (Rj N_)
def L58 (N_:Nat):LT:=ad (L57 N_) 173 ⟨[.roi .u32,.roi .u32],[]⟩ [.is,.is] (λS_ c_ a b=>S_ a b (λr0=>c_ (vwi r0) [])) N_ (Rh N_)
def L59 (N_:Nat):LT:=ad (L58 N_) 206 ⟨[.roi .u32,.int .i64],[]⟩ [.is,.i] (λS_ c_ m at_=>S_ m at_ (λr0=>c_ (vwu r0) [])) N_ (vF N_)
def L60 (N_:Nat):LT:=ad (L59 N_) 205 ⟨[.int .u64,.int .u64],[]⟩ [.i,.i] (λS_ c_ x y=>S_ x y (λr0 r1 r2 r3=>c_ (.tup [vwi r0,vwi r1,vwi r2,vwi r3]) [])) N_ (sG N_)
def L61 (N_:Nat):LT:=ad (L60 N_) 208 ⟨[.roi .u32,.int .u32],[]⟩ [.is,.i] (λS_ c_ m d=>S_ m d (λr0 r1=>c_ (.tup [vws r0,vwv r1]) [])) N_ (sF N_)
def L62 (N_:Nat):LT:=ad (L61 N_) 211 ⟨[.sl 0,.sl 1,.int .i64,.int .u64],[some (218,1,.ints .u32),some (218,1,.ints .u32)]⟩ [.n,.n,.n,.n,.i,.i,.is,.is] (λS_ c_ Yv XU d_0 X8 j g b W0=>S_ Yv XU d_0 X8 j g b W0 (λr0 r1=>c_ (.bool r0) [⟨218,1,.ints .u32 r1⟩,⟨218,1,.ints .u32 W0⟩])) N_ (LJ N_)
def L63 (N_:Nat):LT:=ad (L62 N_) 212 ⟨[.sl 0,.sl 1,.int .i64],[some (218,1,.ints .u32),some (218,1,.ints .u32)]⟩ [.n,.n,.n,.n,.i,.is,.is] (λS_ c_ Yv XU d_0 X8 j b W0=>S_ Yv XU d_0 X8 j b W0 (λr0=>c_ (.tup []) [⟨218,1,.ints .u32 r0⟩,⟨218,1,.ints .u32 W0⟩])) N_ (LM N_)
def L64 (N_:Nat):LT:=ao (L63 N_) 175 ⟨[.sl 0],[some (218,1,.ints .u32)]⟩ [.n,.n,.is] (λS_ c_ XK W9 b=>S_ XK W9 b (λr1=>c_ (.sl 0 XK r1) [⟨218,1,.ints .u32 b⟩])) N_ (sD N_)
def L65 (N_:Nat):LT:=ao (L64 N_) 170 ⟨[.sl 0,.int .u64],[some (218,1,.ints .u32)]⟩ [.n,.n,.i,.is] (λS_ c_ XK W9 n b=>S_ XK W9 n b (λr0=>c_ (vws r0) [⟨218,1,.ints .u32 b⟩])) N_ (LW N_)
def L66 (N_:Nat):LT:=ad (L65 N_) 137 ⟨[.roi .u32,.roi .u32],[]⟩ [.is,.is] (λS_ c_ a b=>S_ a b (λr0=>c_ (vws r0) [])) N_ (Rd N_)
def L67 (N_:Nat):LT:=ad (L66 N_) 231 ⟨[.roi .u32,.roi .u32],[]⟩ [.is,.is] (λS_ c_ a b=>S_ a b (λr0=>c_ (vws r0) [])) N_ (sE N_)
def L68 (N_:Nat):LT:=ad (L67 N_) 232 ⟨[.roi .u32,.int .u64,.roi .u32,.int .u64],[]⟩ [.is,.i,.is,.i] (λS_ c_ a u b v=>S_ a u b v (λr0=>c_ (vws r0) [])) N_ (LZ N_)
def L69 (N_:Nat):LT:=ad (L68 N_) 207 ⟨[.roi .u32,.int .i64,.roi .u32,.int .i64],[]⟩ [.is,.i,.is,.i] (λS_ c_ a u b v=>S_ a u b v (λr0=>c_ (vws r0) [])) N_ (uk N_)
def L70 (N_:Nat):LT:=ad (L69 N_) 112 ⟨[.agg [.int .i64,.int .i64,.rl RT3],.int .i64,.int .i64],[]⟩ [.i,.i,.r RT3,.i,.i] (λS_ c_ XK W9 Xu i j=>S_ XK W9 Xu i j (λr0 r1 r2 r3=>c_ (.rp [.bool r0,vws r1,.bool r2,vws r3] 0) [])) N_ (Ls N_)
def L71 (N_:Nat):LT:=ad (L70 N_) 164 ⟨[.ptr 0 0,.ptr 1 0],[some (153,1,.cells [.bool,.roi .u32]),some (153,1,.cells [.bool,.roi .u32])]⟩ [.b,.is,.b,.is] (λS_ c_ b W0 W2 W7=>S_ b W0 W2 W7 (λr0=>c_ (vwi r0) [⟨153,1,.cells [.bool b,vws W0]⟩,⟨153,1,.cells [.bool W2,vws W7]⟩])) N_ (LP N_)
def L72 (N_:Nat):LT:=ad (L71 N_) 131 ⟨[.int .i64,.int .i64],[]⟩ [.i,.i] (λS_ c_ rows cols=>S_ rows cols (λr2=>c_ (.agg [vwi rows,vwi cols,.slw 0]) [⟨148,1,.own 155 RT2 r2 []⟩])) N_ (qK N_)
def L73 (N_:Nat):LT:=ao (L72 N_) 112 ⟨[.agg [.int .i64,.int .i64,.slw 0],.int .i64,.int .i64],[some (148,1,.own 155 RT2)]⟩ [.i,.i,.i,.i,.r RT2] (λS_ c_ XK W9 i j b=>S_ XK W9 i j b (λr0=>c_ (.opt 0 r0 0) [⟨148,1,.own 155 RT2 b []⟩])) N_ (QP N_)
def L74 (N_:Nat):LT:=ad (L73 N_) 133 ⟨[.rp [.bool,.roi .u32,.bool,.roi .u32] 0],[]⟩ [.b,.is,.b,.is] (λS_ c_ z_0 YI z_2 z_3=>S_ z_0 YI z_2 z_3 (λr0=>c_ (vwi r0) [])) N_ (xA N_)
def L75 (N_:Nat):LT:=ad (L74 N_) 230 ⟨[.roi .u32,.roi .u32],[]⟩ [.is,.is] (λS_ c_ a b=>S_ a b (λr0=>c_ (vws r0) [])) N_ (vH N_)
def L76 (N_:Nat):LT:=ad (L75 N_) 107 ⟨[.int .i64],[]⟩ [.i] (λS_ c_ kind=>S_ kind (λr0=>c_ (vwi r0) [])) N_ (ot N_)
def L77 (N_:Nat):LT:=ad (L76 N_) 74 ⟨[.int .i64],[]⟩ [.i] (λS_ c_ ticks=>S_ ticks (λr0 r1=>c_ (.tup [.flt r0,vwi r1]) [])) N_ (nt N_)
def L78 (N_:Nat):LT:=ad (L77 N_) 38 ⟨[.agg [.int .i64,.int .i64,.flt,.flt],.flt],[]⟩ [.i,.i,.f,.f,.f] (λS_ c_ p_0 Z9 Zc p_3 d=>S_ p_0 Z9 Zc p_3 d (λr0 r1=>c_ (.slw 0) [⟨26,1,.cells [.rof r0,.rof r1]⟩]) (λr0 r1 r2=>c_ (.slw 0) [⟨26,1,.cells [.rof r0,.rof r1,.rof r2]⟩]) (λr0=>c_ (.slw 0) [⟨26,1,.cells [.rof r0]⟩])) N_ (sy N_)
def L79 (N_:Nat):LT:=ad (L78 N_) 39 ⟨[.agg [.int .i64,.int .i64,.flt,.flt],.flt],[]⟩ [.i,.i,.f,.f,.f] (λS_ c_ p_0 Z9 Zc p_3 d=>S_ p_0 Z9 Zc p_3 d (λr0=>c_ (.slw 0) [⟨26,1,.cells [.rof r0]⟩]) (λr0 r1=>c_ (.slw 0) [⟨26,1,.cells [.rof r0,.rof r1]⟩]) (λr0 r1 r2=>c_ (.slw 0) [⟨26,1,.cells [.rof r0,.rof r1,.rof r2]⟩])) N_ (sA N_)
def L80 (N_:Nat):LT:=ao1 1 (L79 N_) 46 ⟨[.ptr 0 0,.flt],[some (81,1,.cells [.bool])]⟩ [.f,.b] (λS_ c_ x b=>S_ x b (λr1=>c_ (.flt x) (.bool r1))) N_ (LS N_)
def L81 (N_:Nat):LT:=ao1 1 (L80 N_) 67 ⟨[.ptr 0 0,.flt,.flt],[some (81,1,.cells [.bool])]⟩ [.f,.f,.b] (λS_ c_ a b W0=>S_ a b W0 (λr0 r1=>c_ (.flt r0) (.bool r1))) N_ (sw N_)
def L82 (N_:Nat):LT:=ao1 1 (L81 N_) 41 ⟨[.ptr 0 0,.rof,.rof],[some (81,1,.cells [.bool])]⟩ [.fs,.fs,.b] (λS_ c_ a b W0=>S_ a b W0 (λr0 r1=>c_ (.flt r0) (.bool r1))) N_ (sv N_)
def L83 (N_:Nat):LT:=ao1 1 (L82 N_) 41 ⟨[.ptr 0 0,.rof,.slw 1],[some (81,1,.cells [.bool]),some (47,1,.flts)]⟩ [.fs,.b,.fs] (λS_ c_ a b W0=>S_ a b W0 (λr0 r1=>c_ (.flt r0) (.bool r1))) N_ (LV N_)
def L84 (N_:Nat):LT:=ao (L83 N_) 43 ⟨[.ptr 0 0,.agg [.int .i64,.int .i64,.rof],.agg [.int .i64,.int .i64,.rof]],[some (81,1,.cells [.bool])]⟩ [.i,.i,.fs,.i,.i,.fs,.b] (λS_ c_ a_0 XP ZE b_0 W0 W2 b=>S_ a_0 XP ZE b_0 W0 W2 b (λr2 r3=>c_ (.agg [vwi a_0,vwi W0,.slw 1]) [⟨81,1,.cells [.bool r2]⟩,⟨47,1,.flts r3⟩])) N_ (jq N_)
def L85 (N_:Nat):LT:=ao1 1 (L84 N_) 41 ⟨[.ptr 0 0,.sl 1,.rof],[some (81,1,.cells [.bool]),some (47,1,.flts)]⟩ [.n,.n,.fs,.b,.fs] (λS_ c_ a_0 XP b W0 W2=>S_ a_0 XP b W0 W2 (λr0 r1=>c_ (.flt r0) (.bool r1))) N_ (LU N_)
def L86 (N_:Nat):LT:=ad (L85 N_) 45 ⟨[.int .i64,.int .i64,.ptr 0 0,.ptr 1 0,.ptr 2 0,.ptr 3 0,.ptr 4 0],[some (79,1,.cells [.ptr 5 0]),some (28,1,.cells [.int .i64,.int .i64,.slw 6]),some (28,1,.cells [.int .i64,.int .i64,.rof]),some (28,1,.cells [.int .i64,.int .i64,.rof]),some (3,1,.cells [.int .i64]),some (81,1,.cells [.bool]),some (47,1,.flts)]⟩ [.i,.i,.i,.i,.i,.i,.fs,.i,.i,.fs,.i,.b,.fs] (λS_ c_ i j b W0 W2 W7 Xd Xe Xn Xk Xw Xy W5=>S_ i j b W0 W2 W7 Xd Xe Xn Xk Xw Xy W5 (λr0 r10=>c_ (.flt r0) [⟨79,1,.cells [.ptr 5 0]⟩,⟨28,1,.cells [vwi b,vwi W0,.slw 6]⟩,⟨28,1,.cells [vwi W2,vwi W7,.rof Xd]⟩,⟨28,1,.cells [vwi Xe,vwi Xn,.rof Xk]⟩,⟨3,1,.cells [vwi Xw]⟩,⟨81,1,.cells [.bool r10]⟩,⟨47,1,.flts W5⟩])) N_ (ca N_)
def L87 (N_:Nat):LT:=ao (L86 N_) 44 ⟨[.int .i64,.fn 45 [.ptr 0 0,.ptr 1 0,.ptr 2 0,.ptr 3 0,.ptr 4 0]],[some (79,1,.cells [.ptr 5 0]),some (28,1,.cells [.int .i64,.int .i64,.slw 6]),some (28,1,.cells [.int .i64,.int .i64,.rof]),some (28,1,.cells [.int .i64,.int .i64,.rof]),some (3,1,.cells [.int .i64]),some (81,1,.cells [.bool]),some (47,1,.flts)]⟩ [.i,.i,.i,.i,.i,.fs,.i,.i,.fs,.i,.b,.fs] (λS_ c_ n b W0 W2 W7 Xd Xe Xn Xk Xw Xy W5=>S_ n b W0 W2 W7 Xd Xe Xn Xk Xw Xy W5 (λr11 r13=>c_ (.agg [vwi n,vwi n,.slw 7]) [⟨79,1,.cells [.ptr 5 0]⟩,⟨28,1,.cells [vwi b,vwi W0,.slw 6]⟩,⟨28,1,.cells [vwi W2,vwi W7,.rof Xd]⟩,⟨28,1,.cells [vwi Xe,vwi Xn,.rof Xk]⟩,⟨3,1,.cells [vwi Xw]⟩,⟨81,1,.cells [.bool r11]⟩,⟨47,1,.flts W5⟩,⟨47,1,.flts r13⟩])) N_ (eA N_)
def L88 (N_:Nat):LT:=ao1 2 (L87 N_) 78 ⟨[.ptr 0 0],[some (81,1,.cells [.bool])]⟩ [.b] (λS_ c_ b=>S_ b (c_ (.bool b) (.any))) N_ (qH N_)
def L89 (N_:Nat):LT:=upM Pg jp N_ fmd (L88 N_) [109,165,58,113,209,168,166,105,33,14,31,189,157,188,226,154,241,243,251,150,181,179,180,124,64,61,5,145,146,144,95]
def L90 (N_:Nat):LT:=ad (L89 N_) 122 ⟨[.int .u64,.agg [.int .u64,.int .i64,.int .i64]],[]⟩ [.i,.i,.i,.i] (λS_ c_ b YD YE YL=>S_ b YD YE YL (λr0=>c_ (.bool r0) [])) N_ (Lv N_)
def L91 (N_:Nat):LT:=ad (L90 N_) 123 ⟨[.agg [.int .u64,.int .i64,.int .i64]],[]⟩ [.i,.i,.i] (λS_ c_ YD YE YL=>S_ YD YE YL (λr0=>c_ (vwu r0) [])) N_ (xy N_)
def L92 (N_:Nat):LT:=ad (L91 N_) 148 ⟨[.ptr 0 0,.int .u64],[some (189,1,.cells [.bool,.nil])]⟩ [.i,.b] (λS_ c_ n b=>S_ n b (λr0 r1=>c_ (.ptr 0 0) [⟨189,1,.cells [.bool r0,vwr r1]⟩])) N_ (QO N_)
def L93 (N_:Nat):LT:=ad (L92 N_) 149 ⟨[.ptr 0 0,.ptr 0 0],[some (189,1,.cells [.bool,.roi .u64])]⟩ [.b,.is] (λS_ c_ b W0=>S_ b W0 (λr0 r1=>c_ (.ptr 0 0) [⟨189,1,.cells [.bool r0,vwr r1]⟩])) N_ (Q4 N_)
def L94 (N_:Nat):LT:=ad (L93 N_) 183 ⟨[.ptr 0 0,.int .i64],[some (189,1,.cells [.bool,.nil])]⟩ [.i,.b] (λS_ c_ n b=>S_ n b (λr0 r1=>c_ (.ptr 0 0) [⟨189,1,.cells [.bool r0,vwr r1]⟩])) N_ (Q8 N_)
def L95 (N_:Nat):LT:=ad (L94 N_) 239 ⟨[.roi .u64,.int .i64],[]⟩ [.is,.i] (λS_ c_ x from_=>S_ x from_ (λr0=>c_ (vwu r0) [])) N_ (xw N_)
def L96 (N_:Nat):LT:=ad (L95 N_) 252 ⟨[.roi .u64,.roi .u64],[]⟩ [.is,.is] (λS_ c_ x y=>S_ x y (λr0=>c_ (vwr r0) [])) N_ (LR N_)
def L97 (N_:Nat):LT:=ad (L96 N_) 240 ⟨[.agg [.int .u64,.int .u64,.int .u64,.int .u64,.bool],.roi .u64,.roi .u64],[]⟩ [.i,.i,.i,.i,.b,.is,.is] (λS_ c_ w_0 w_1 w_2 w_3 w_4 x y=>S_ w_0 w_1 w_2 w_3 w_4 x y (λr0 r1=>c_ (.tup [vwr r0,vwr r1]) [])) N_ (eD N_)
def L98 (N_:Nat):LT:=ad (L97 N_) 254 ⟨[.int .u64,.int .u64,.int .u64],[]⟩ [.i,.i,.i] (λS_ c_ hi lo y=>S_ hi lo y (λr0 r1=>c_ (.tup [vwu r0,vwu r1]) [])) N_ (Lq N_)
def L99 (N_:Nat):LT:=ad (L98 N_) 242 ⟨[.roi .u64,.int .u64],[]⟩ [.is,.i] (λS_ c_ x d=>S_ x d (λr0 r1=>c_ (.tup [vwr r0,vwu r1]) [])) N_ (su N_)
def RA (N_:Nat):LT:=ad (L99 N_) 255 ⟨[.sl 0,.roi .u64],[some (43,1,.ints .u64)]⟩ [.n,.n,.is,.is] (λS_ c_ Yv XU v b=>S_ Yv XU v b (λr0=>c_ (vwu r0) [⟨43,1,.ints .u64 b⟩])) N_ (vj N_)
def RB (N_:Nat):LT:=ad (RA N_) 244 ⟨[.sl 0,.roi .u64],[some (43,1,.ints .u64)]⟩ [.n,.n,.is,.is] (λS_ c_ Yv XU v b=>S_ Yv XU v b (λr0 r1=>c_ (vwu r0) [⟨43,1,.ints .u64 r1⟩])) N_ (wJ N_)
def RC (N_:Nat):LT:=ao (RB N_) 255 ⟨[.sl 0,.sl 1],[some (43,1,.ints .u64),some (43,1,.ints .u64)]⟩ [.n,.n,.n,.n,.is,.is] (λS_ c_ Yv XU v_0 Yt b W0=>S_ Yv XU v_0 Yt b W0 (λr0=>c_ (vwu r0) [⟨43,1,.ints .u64 b⟩,⟨43,1,.ints .u64 W0⟩])) N_ (OL N_)
def RD (N_:Nat):LT:=ao (RC N_) 244 ⟨[.sl 0,.sl 1],[some (43,1,.ints .u64),some (43,1,.ints .u64)]⟩ [.n,.n,.n,.n,.is,.is] (λS_ c_ Yv XU v_0 Yt b W0=>S_ Yv XU v_0 Yt b W0 (λr0 r1=>c_ (vwu r0) [⟨43,1,.ints .u64 r1⟩,⟨43,1,.ints .u64 W0⟩])) N_ (LG N_)
def Mf (N_:Nat):LT:=ad (RD N_) 245 ⟨[.sl 0,.int .u64],[some (43,1,.ints .u64)]⟩ [.n,.n,.i,.is] (λS_ c_ X1 Xm n b=>S_ X1 Xm n b (λr0 r1=>c_ (.tup [vwr r0,.bool r1]) [⟨43,1,.ints .u64 b⟩])) N_ (Is N_)
def Ve (N_:Nat):LT:=ad (Mf N_) 182 ⟨[.roi .u64,.int .u64],[]⟩ [.is,.i] (λS_ c_ x n=>S_ x n (c_ (.nil) []) (λr0 r1=>c_ (.sl 0 0 r0) [⟨43,1,.ints .u64 r1⟩])) N_ (Ry N_)
def RE (N_:Nat):LT:=ad (Mf N_) 219 ⟨[.roi .u64,.roi .u64],[]⟩ [.is,.is] (λS_ c_ x y=>S_ x y (λr0 r1=>c_ (.tup [vwr r0,vwr r1]) [])) N_ (LY N_)
def RF (N_:Nat):LT:=ad (RE N_) 217 ⟨[.roi .u64,.roi .u64],[]⟩ [.is,.is] (λS_ c_ x y=>S_ x y (λr0=>c_ (vwr r0) [])) N_ (Q7 N_)
def RG (N_:Nat):LT:=ad (RF N_) 184 ⟨[.ptr 0 0,.bool,.roi .u64,.roi .u64],[some (195,1,.cells [.bool,.nil,.bool,.nil])]⟩ [.b,.is,.is,.b,.b] (λS_ c_ neg a b W0 W2=>S_ neg a b W0 W2 (λr0 r1 r2 r3=>c_ (.ptr 0 0) [⟨195,1,.cells [.bool r0,vwr r1,.bool r2,vwr r3]⟩])) N_ (Re N_)
def RH (N_:Nat):LT:=ad (RG N_) 185 ⟨[.ptr 0 0,.bool,.roi .u64,.slw 1],[some (195,1,.cells [.bool,.nil,.bool,.nil]),some (43,1,.ints .u64)]⟩ [.b,.is,.b,.b,.is] (λS_ c_ neg a b W0 W2=>S_ neg a b W0 W2 (λr0 r2=>c_ (.ptr 0 0) [⟨195,1,.cells [.bool r0,vwr a,.bool r2,.slw 1]⟩,⟨43,1,.ints .u64 W2⟩])) N_ (Ro N_)
def RI (N_:Nat):LT:=ao (RH N_) 185 ⟨[.ptr 0 0,.bool,.roi .u64,.roi .u64],[some (195,1,.cells [.bool,.nil,.bool,.nil])]⟩ [.b,.is,.is,.b,.b] (λS_ c_ neg a b W0 W2=>S_ neg a b W0 W2 (λr0 r2=>c_ (.ptr 0 0) [⟨195,1,.cells [.bool r0,vwr a,.bool r2,vwr b]⟩])) N_ (QU N_)
def RJ (N_:Nat):LT:=ad (RI N_) 222 ⟨[.ptr 0 0,.rp [.bool,.roi .u64,.bool,.roi .u64] 0],[some (195,1,.cells [.bool,.nil,.bool,.nil])]⟩ [.b,.is,.b,.is,.b,.b] (λS_ c_ X1 Xm XV X9 b W0=>S_ X1 Xm XV X9 b W0 (λr0 r1 r2 r3=>c_ (.ptr 0 0) [⟨195,1,.cells [.bool r0,vwr r1,.bool r2,vwr r3]⟩])) N_ (Rs N_)
def RK (N_:Nat):LT:=ad (RJ N_) 248 ⟨[.roi .u64,.roi .u64],[]⟩ [.is,.is] (λS_ c_ x y=>S_ x y (λr0=>c_ (vwr r0) [])) N_ (Rz N_)
def RL (N_:Nat):LT:=ad (RK N_) 257 ⟨[.roi .u64,.roi .u64],[]⟩ [.is,.is] (λS_ c_ x y=>S_ x y (λr0=>c_ (vwr r0) [])) N_ (xv N_)
def RM (N_:Nat):LT:=ad (RL N_) 249 ⟨[.ptr 0 0,.ptr 0 0,.bool,.roi .u64],[some (189,1,.cells [.bool,.roi .u64])]⟩ [.b,.is,.b,.is] (λS_ c_ neg y b W0=>S_ neg y b W0 (λr0 r1=>c_ (.ptr 0 0) [⟨189,1,.cells [.bool r0,vwr r1]⟩])) N_ (Q0 N_)
def RN (N_:Nat):LT:=ad (RM N_) 221 ⟨[.ptr 0 0,.rp [.bool,.roi .u64,.bool,.roi .u64] 0,.ptr 1 0],[some (195,1,.cells [.bool,.nil,.bool,.nil]),some (195,1,.cells [.bool,.roi .u64,.bool,.roi .u64])]⟩ [.b,.is,.b,.is,.b,.b,.b,.is,.b,.is] (λS_ c_ X1 Xm XV X9 b W0 W2 W7 Xd Xe=>S_ X1 Xm XV X9 b W0 W2 W7 Xd Xe (λr0 r1 r2 r3=>c_ (.ptr 0 0) [⟨195,1,.cells [.bool r0,vwr r1,.bool r2,vwr r3]⟩,⟨195,1,.cells [.bool W2,vwr W7,.bool Xd,vwr Xe]⟩])) N_ (QW N_)
def RO (N_:Nat):LT:=ad (RN N_) 187 ⟨[.ptr 0 0,.rp [.bool,.roi .u64,.bool,.roi .u64] 0,.rp [.bool,.roi .u64,.bool,.roi .u64] 0],[some (195,1,.cells [.bool,.nil,.bool,.nil])]⟩ [.b,.is,.b,.is,.b,.is,.b,.is,.b,.b] (λS_ c_ X1 Xm XV X9 y_0 X0 YS ZJ b W0=>S_ X1 Xm XV X9 y_0 X0 YS ZJ b W0 (λr0 r1 r2 r3=>c_ (.ptr 0 0) [⟨195,1,.cells [.bool r0,vwr r1,.bool r2,vwr r3]⟩])) N_ (Lo N_)
def RP (N_:Nat):LT:=ad (RO N_) 225 ⟨[.ptr 0 0,.bool,.roi .u64,.roi .u64,.roi .u64,.roi .u64],[some (195,1,.cells [.bool,.nil,.bool,.nil])]⟩ [.b,.is,.is,.is,.is,.b,.b] (λS_ c_ neg a b c d W0 W2=>S_ neg a b c d W0 W2 (λr0 r1 r2 r3=>c_ (.ptr 0 0) [⟨195,1,.cells [.bool r0,vwr r1,.bool r2,vwr r3]⟩])) N_ (QR N_)
def RQ (N_:Nat):LT:=ad (RP N_) 193 ⟨[.ptr 0 0,.rp [.bool,.roi .u64,.bool,.roi .u64] 0,.rp [.bool,.roi .u64,.bool,.roi .u64] 0],[some (195,1,.cells [.bool,.nil,.bool,.nil])]⟩ [.b,.is,.b,.is,.b,.is,.b,.is,.b,.b] (λS_ c_ X1 Xm XV X9 y_0 X0 YS ZJ b W0=>S_ X1 Xm XV X9 y_0 X0 YS ZJ b W0 (λr0 r1 r2 r3=>c_ (.ptr 0 0) [⟨195,1,.cells [.bool r0,vwr r1,.bool r2,vwr r3]⟩])) N_ (Ln N_)
def RS (N_:Nat):LT:=ad (RQ N_) 224 ⟨[.ptr 0 0,.rp [.bool,.roi .u64,.bool,.roi .u64] 0,.rp [.bool,.roi .u64,.bool,.roi .u64] 0],[some (195,1,.cells [.bool,.nil,.bool,.nil])]⟩ [.b,.is,.b,.is,.b,.is,.b,.is,.b,.b] (λS_ c_ X1 Xm XV X9 y_0 X0 YS ZJ b W0=>S_ X1 Xm XV X9 y_0 X0 YS ZJ b W0 (λr0 r1 r2 r3=>c_ (.ptr 0 0) [⟨195,1,.cells [.bool r0,vwr r1,.bool r2,vwr r3]⟩])) N_ (Lm N_)
def RU (N_:Nat):LT:=ao (RS N_) 221 ⟨[.ptr 0 0,.rp [.bool,.roi .u64,.bool,.roi .u64] 0,.rp [.bool,.roi .u64,.bool,.roi .u64] 0],[some (195,1,.cells [.bool,.nil,.bool,.nil])]⟩ [.b,.is,.b,.is,.b,.is,.b,.is,.b,.b] (λS_ c_ X1 Xm XV X9 y_0 X0 YS ZJ b W0=>S_ X1 Xm XV X9 y_0 X0 YS ZJ b W0 (λr0 r1 r2 r3=>c_ (.ptr 0 0) [⟨195,1,.cells [.bool r0,vwr r1,.bool r2,vwr r3]⟩])) N_ (OJ N_)
def RV (N_:Nat):LT:=ad (RU N_) 142 ⟨[.flt],[]⟩ [.f] (λS_ c_ x=>S_ x (λr0 r1 r2=>c_ (.tup [.bool r0,vwi r1,vwu r2]) [])) N_ (sI N_)
def RW (N_:Nat):LT:=ad (RV N_) 199 ⟨[.flt],[]⟩ [.f] (λS_ c_ x=>S_ x (λr0 r1 r2 r3=>c_ (.tup [.agg [.bool r0,vwu r1,vwi r2],vwi r3]) [])) N_ (sH N_)
def RX (N_:Nat):LT:=ad (RW N_) 200 ⟨[.ptr 0 0,.int .u64],[some (153,1,.cells [.bool,.nil])]⟩ [.i,.b] (λS_ c_ n b=>S_ n b (λr0 r1=>c_ (.ptr 0 0) [⟨153,1,.cells [.bool r0,vws r1]⟩])) N_ (Rb N_)
def RY (N_:Nat):LT:=ad (RX N_) 201 ⟨[.ptr 0 0,.ptr 0 0],[some (153,1,.cells [.bool,.roi .u32])]⟩ [.b,.is] (λS_ c_ b W0=>S_ b W0 (λr0 r1=>c_ (.ptr 0 0) [⟨153,1,.cells [.bool r0,vws r1]⟩])) N_ (LN N_)
def RZ (N_:Nat):LT:=ad (RY N_) 162 ⟨[.flt],[]⟩ [.f] (λS_ c_ x=>S_ x (λr0 r1 r2=>c_ (.agg [.ptr 0 0,vwi r0]) [⟨153,1,.cells [.bool r1,vws r2]⟩])) N_ (zT N_)
def Mg (N_:Nat):LT:=ad (RZ N_) 197 ⟨[.ptr 0 0,.ptr 1 0,.int .u64],[some (153,1,.cells [.bool,.nil]),some (153,1,.cells [.bool,.roi .u32])]⟩ [.i,.b,.b,.is] (λS_ c_ n b W0 W2=>S_ n b W0 W2 (λr0 r1=>c_ (.ptr 0 0) [⟨153,1,.cells [.bool r0,vws r1]⟩,⟨153,1,.cells [.bool W0,vws W2]⟩])) N_ (Lu N_)
def Vf (N_:Nat):LT:=ad (Mg N_) 210 ⟨[.roi .u32,.int .u64],[]⟩ [.is,.i] (λS_ c_ m n=>S_ m n (c_ (.nil) []) (λr0 r1=>c_ (.sl 0 0 r0) [⟨218,1,.ints .u32 r1⟩])) N_ (Lk N_)
def R3 (N_:Nat):LT:=ad (Mg N_) 174 ⟨[.roi .u32,.roi .u32],[]⟩ [.is,.is] (λS_ c_ a b=>S_ a b (λr0 r1=>c_ (.tup [vws r0,vws r1]) [])) N_ (Ep N_)
def R4 (N_:Nat):LT:=ad (R3 N_) 172 ⟨[.roi .u32,.roi .u32],[]⟩ [.is,.is] (λS_ c_ a b=>S_ a b (λr0=>c_ (vws r0) [])) N_ (LO N_)
def R5 (N_:Nat):LT:=ad (R4 N_) 136 ⟨[.ptr 0 0,.bool,.roi .u32,.roi .u32],[some (155,1,.cells [.bool,.nil,.bool,.nil])]⟩ [.b,.is,.is,.b,.b] (λS_ c_ neg a b W0 W2=>S_ neg a b W0 W2 (λr0 r1 r2 r3=>c_ (.ptr 0 0) [⟨155,1,.cells [.bool r0,vws r1,.bool r2,vws r3]⟩])) N_ (QQ N_)
def R6 (N_:Nat):LT:=ad (R5 N_) 227 ⟨[.ptr 0 0,.int .i64],[some (153,1,.cells [.bool,.nil])]⟩ [.i,.b] (λS_ c_ n b=>S_ n b (λr0 r1=>c_ (.ptr 0 0) [⟨153,1,.cells [.bool r0,vws r1]⟩])) N_ (Ly N_)
def R7 (N_:Nat):LT:=ad1 2 (R6 N_) 138 ⟨[.rp [.bool,.roi .u32,.bool,.roi .u32] 0],[]⟩ [.b,.is,.b,.is] (λS_ c_ r_0 r_1 r_2 r_3=>S_ r_0 r_1 r_2 r_3 (λr0=>c_ (vws r0) (.any))) N_ (Ri N_)
def R8 (N_:Nat):LT:=ad (R7 N_) 163 ⟨[.rp [.bool,.roi .u32,.bool,.roi .u32] 0,.rp [.bool,.roi .u32,.bool,.roi .u32] 0],[]⟩ [.b,.is,.b,.is,.b,.is,.b,.is] (λS_ c_ X1 Xm XV X9 y_0 X0 YS ZJ=>S_ X1 Xm XV X9 y_0 X0 YS ZJ (λr1 r3=>c_ (.tup [.ptr 0 0,.ptr 1 0]) [⟨153,1,.cells [.bool X1,vws r1]⟩,⟨153,1,.cells [.bool y_0,vws r3]⟩])) N_ (sC N_)
def R9 (N_:Nat):LT:=ad (R8 N_) 132 ⟨[.ptr 0 0,.rp [.bool,.roi .u32,.bool,.roi .u32] 0],[some (155,1,.cells [.bool,.roi .u32,.bool,.roi .u32])]⟩ [.b,.is,.b,.is,.b,.is,.b,.is] (λS_ c_ X1 Xm XV X9 b W0 W2 W7=>S_ X1 Xm XV X9 b W0 W2 W7 (λr0 r1 r2 r3=>c_ (.ptr 0 0) [⟨155,1,.cells [.bool r0,vws r1,.bool r2,vws r3]⟩])) N_ (Rv N_)
def R_ (N_:Nat):LT:=ad (R9 N_) 111 ⟨[.agg [.int .i64,.int .i64,.rl RT3]],[]⟩ [.i,.i,.r RT3] (λS_ c_ XK W9 Xu=>S_ XK W9 Xu (λr2=>c_ (.agg [vwi XK,vwi W9,.slw 0]) [⟨148,1,.own 155 RT2 r2 []⟩])) N_ (Ru N_)
def Sa (N_:Nat):LT:=ao1 2 (R_ N_) 138 ⟨[.ptr 0 0],[some (155,1,.cells [.bool,.roi .u32,.bool,.roi .u32])]⟩ [.b,.is,.b,.is] (λS_ c_ b W0 W2 W7=>S_ b W0 W2 W7 (λr0=>c_ (vws r0) (.any))) N_ (GQ7 N_)
def Sb (N_:Nat):LT:=ad (Sa N_) 115 ⟨[.ptr 0 0,.ptr 1 0,.ptr 2 0],[some (155,1,.cells [.bool,.nil,.bool,.nil]),some (155,1,.cells [.bool,.roi .u32,.bool,.roi .u32]),some (155,1,.cells [.bool,.roi .u32,.bool,.roi .u32])]⟩ [.b,.b,.b,.is,.b,.is,.b,.is,.b,.is] (λS_ c_ b W0 W2 W7 Xd Xe Xn Xk Xw Xy=>S_ b W0 W2 W7 Xd Xe Xn Xk Xw Xy (λr0 r1 r2 r3=>c_ (.ptr 0 0) [⟨155,1,.cells [.bool r0,vws r1,.bool r2,vws r3]⟩,⟨155,1,.cells [.bool W2,vws W7,.bool Xd,vws Xe]⟩,⟨155,1,.cells [.bool Xn,vws Xk,.bool Xw,vws Xy]⟩])) N_ (QN N_)
def Sc (N_:Nat):LT:=ad (Sb N_) 135 ⟨[.ptr 0 0,.ptr 1 0,.ptr 2 0],[some (155,1,.cells [.bool,.nil,.bool,.nil]),some (155,1,.cells [.bool,.roi .u32,.bool,.roi .u32]),some (155,1,.cells [.bool,.roi .u32,.bool,.roi .u32])]⟩ [.b,.b,.b,.is,.b,.is,.b,.is,.b,.is] (λS_ c_ b W0 W2 W7 Xd Xe Xn Xk Xw Xy=>S_ b W0 W2 W7 Xd Xe Xn Xk Xw Xy (λr0 r1 r2 r3=>c_ (.ptr 0 0) [⟨155,1,.cells [.bool r0,vws r1,.bool r2,vws r3]⟩,⟨155,1,.cells [.bool W2,vws W7,.bool Xd,vws Xe]⟩,⟨155,1,.cells [.bool Xn,vws Xk,.bool Xw,vws Xy]⟩])) N_ (QM N_)
def Sd (N_:Nat):LT:=ao (Sc N_) 163 ⟨[.ptr 0 0,.ptr 1 0],[some (155,1,.cells [.bool,.roi .u32,.bool,.roi .u32]),some (155,1,.cells [.bool,.roi .u32,.bool,.roi .u32])]⟩ [.b,.is,.b,.is,.b,.is,.b,.is] (λS_ c_ b W0 W2 W7 Xd Xe Xn Xk=>S_ b W0 W2 W7 Xd Xe Xn Xk (λr9 r11=>c_ (.tup [.ptr 2 0,.ptr 3 0]) [⟨155,1,.cells [.bool b,vws W0,.bool W2,vws W7]⟩,⟨155,1,.cells [.bool Xd,vws Xe,.bool Xn,vws Xk]⟩,⟨153,1,.cells [.bool b,vws r9]⟩,⟨153,1,.cells [.bool Xd,vws r11]⟩])) N_ (Rp N_)
def Se (N_:Nat):LT:=ad (Sd N_) 202 ⟨[.ptr 0 0,.ptr 1 0,.ptr 2 0,.bool],[some (153,1,.cells [.bool,.nil]),some (153,1,.cells [.bool,.roi .u32]),some (153,1,.cells [.bool,.roi .u32])]⟩ [.b,.b,.b,.is,.b,.is] (λS_ c_ turn b W0 W2 W7 Xd=>S_ turn b W0 W2 W7 Xd (λr0 r1=>c_ (.ptr 0 0) [⟨153,1,.cells [.bool r0,vws r1]⟩,⟨153,1,.cells [.bool W0,vws W2]⟩,⟨153,1,.cells [.bool W7,vws Xd]⟩])) N_ (Rw N_)
def Sf (N_:Nat):LT:=ao (Se N_) 136 ⟨[.ptr 0 0,.bool,.roi .u32,.roi .u32],[some (155,1,.cells [.bool,.roi .u32,.bool,.roi .u32])]⟩ [.b,.is,.is,.b,.is,.b,.is] (λS_ c_ neg a b W0 W2 W7 Xd=>S_ neg a b W0 W2 W7 Xd (λr0 r1 r2 r3=>c_ (.ptr 0 0) [⟨155,1,.cells [.bool r0,vws r1,.bool r2,vws r3]⟩])) N_ (Rg N_)
def Sg (N_:Nat):LT:=ad (Sf N_) 72 ⟨[.flt,.flt],[]⟩ [.f,.f] (λS_ c_ a b=>S_ a b (λr0=>c_ (.bool r0) [])) N_ (vJ N_)
def Si (N_:Nat):LT:=ad (Sg N_) 130 ⟨[.agg [.int .i64,.int .i64,.flt,.flt]],[]⟩ [.i,.i,.f,.f] (λS_ c_ p_0 Z9 Zc p_3=>S_ p_0 Z9 Zc p_3 (λr0=>c_ (vwi r0) [])) N_ (kS N_)
def Sj (N_:Nat):LT:=ad (Si N_) 106 ⟨[.agg [.rl RT0]],[]⟩ [.r RT0] (λS_ c_ m=>S_ m (λr0=>c_ (vwi r0) [])) N_ (pL N_)
def Sk (N_:Nat):LT:=ad (Sj N_) 73 ⟨[.agg [.rl RT0]],[]⟩ [.r RT0] (λS_ c_ m=>S_ m (λr0 r1=>c_ (.tup [vwi r0,vwi r1]) [])) N_ (sx N_)
def Sl (N_:Nat):LT:=ad (Sk N_) 108 ⟨[.int .i64,.int .i64,.fn 109 []],[]⟩ [.i,.i] (λS_ c_ rows cols=>S_ rows cols (λr2=>c_ (.agg [vwi rows,vwi cols,.slw 0]) [⟨47,1,.flts r2⟩])) N_ (LA N_)
def Sm (N_:Nat):LT:=ad (Sl N_) 75 ⟨[.int .i64,.int .i64],[]⟩ [.i,.i] (λS_ c_ rows cols=>S_ rows cols (λr0 r1 r2=>c_ (.tup [.agg [vwi r0,vwi r1,.nil],vwi r2]) []) (λr2 r3=>c_ (.tup [.agg [vwi rows,vwi cols,.slw 0],vwi r2]) [⟨47,1,.flts r3⟩])) N_ (LH N_)
def Sn (N_:Nat):LT:=upM Pg jp N_ fmd (Sm N_) [167,129,196,198,194,195,91,120,190,191,160,156,153,152,151,96]
def So (N_:Nat):LT:=ad (Sn N_) 121 ⟨[.int .u64,.agg [.int .u64,.int .i64,.int .i64]],[]⟩ [.i,.i,.i,.i] (λS_ c_ b YD YE YL=>S_ b YD YE YL (λr0 r1 r2=>c_ (.tup [.bool r0,vwi r1,vwu r2]) [])) N_ (Q_ N_)
def Mh (N_:Nat):LT:=ad (So N_) 94 ⟨[.int .u64,.agg [.int .u64,.int .i64,.int .i64]],[]⟩ [.i,.i,.i,.i] (λS_ c_ b YD YE YL=>S_ b YD YE YL (λr0=>c_ (vwi r0) [])) N_ (Q9 N_)
def T0:FnSh:=⟨[.flt],[]⟩
def Oo (agS:Mn):SPT:=λa_ c_=>match a_ with
 | [.fl x]=>agS x (λr0=>c_ (vwi r0) [])
 | _=>false
abbrev Ua (agS:Mn):Fs:=kp T0 (Oo agS)
def Sp (N_:Nat):LT:=(62,(Ua (Ob N_)))::Mh N_
def QC:FnSh:=⟨[.fb],[]⟩
def T2 (SQ8:Ut):SPT:=λa_ c_=>match a_ with
 | [.nat x]=>SQ8 x (λr0=>c_ (vwi r0) [])
 | _=>false
abbrev FQ8 (SQ8:Ut):Fs:=kp QC (T2 SQ8)
def Sq (N_:Nat):LT:=ad (Sp N_) 26 ⟨[.rof],[]⟩ [.fs] (λS_ c_ l=>S_ l (λr0=>c_ (.bool r0) [])) N_ (Q3 N_)
def Mi (N_:Nat):LT:=ad (Sq N_) 25 ⟨[.agg [.int .i64,.int .i64,.rof]],[]⟩ [.i,.i,.fs] (λS_ c_ XK W9 Xu=>S_ XK W9 Xu (λr0=>c_ (vwi r0) [])) N_ (Q6 N_)
def T1:FnSh:=⟨[.flt,.flt],[]⟩
def Ot (agU:Mo):SPT:=λa_ c_=>match a_ with
 | [.fl a,.fl b]=>agU a b (λr0=>c_ (.bool r0) [])
 | _=>false
abbrev Ub (agU:Mo):Fs:=kp T1 (Ot agU)
def Sr (N_:Nat):LT:=(63,(Ub (Oe N_)))::Mi N_
def QD:FnSh:=⟨[.fb,.fb],[]⟩
def T3 (SQ9:Uu):SPT:=λa_ c_=>match a_ with
 | [.nat a,.nat b]=>SQ9 a b (λr0=>c_ (.bool r0) [])
 | _=>false
abbrev FQ9 (SQ9:Uu):Fs:=kp QD (T3 SQ9)
def Ss (N_:Nat):LT:=ad (Sr N_) 27 ⟨[.agg [.int .i64,.int .i64,.rof]],[]⟩ [.i,.i,.fs] (λS_ c_ XK W9 Xu=>S_ XK W9 Xu (λr0=>c_ (.bool r0) [])) N_ (Ra N_)
def Su (N_:Nat):LT:=ad (Ss N_) 178 ⟨[.int .u64,.agg [.int .u64,.int .i64,.int .i64]],[]⟩ [.i,.i,.i,.i] (λS_ c_ b YD YE YL=>S_ b YD YE YL (λr0 r1 r2 r3=>c_ (.tup [.agg [.bool r0,vwu r1,vwi r2],vwi r3]) [])) N_ (Rr N_)
def Sv (N_:Nat):LT:=ad (Su N_) 126 ⟨[.agg [.int .i64,.int .i64,.slw 0]],[some (169,1,.recs RT1)]⟩ [.i,.i,.r RT1] (λS_ c_ g_0 YU b=>S_ g_0 YU b (c_ (.tup []) [⟨169,1,.recs RT1 b⟩])) N_ (cZ N_)
def Sw (N_:Nat):LT:=ad (Sv N_) 192 ⟨[.int .i64,.int .i64],[]⟩ [.i,.i] (λS_ c_ a b=>S_ a b (λr0 r1 r2 r3=>c_ (.ptr 0 0) [⟨195,1,.cells [.bool r0,vwr r1,.bool r2,vwr r3]⟩])) N_ (qE N_)
def Sx (N_:Nat):LT:=ad (Sw N_) 158 ⟨[.agg [.int .i64,.int .i64,.slw 0],.int .i64,.int .i64,.agg [.rp [.bool,.roi .u64,.bool,.roi .u64] 0]],[some (169,1,.recs RT1)]⟩ [.i,.i,.i,.i,.b,.is,.b,.is,.r RT1] (λS_ c_ g_0 YU i k_ X1 Xm XV X9 b=>S_ g_0 YU i k_ X1 Xm XV X9 b (λr0=>c_ (.tup []) [⟨169,1,.recs RT1 r0⟩])) N_ (fu N_)
def Sy (N_:Nat):LT:=ad (Sx N_) 101 ⟨[.int .i64,.rof,.flt],[]⟩ [.i,.fs,.f] (λS_ c_ n h r=>S_ n h r (λr0=>c_ (vwi r0) [])) N_ (pK N_)
def Sz (N_:Nat):LT:=ad (Sy N_) 80 ⟨[.rof],[]⟩ [.fs] (λS_ c_ l=>S_ l (λr0=>c_ (.bool r0) [])) N_ (LB N_)
def SA (N_:Nat):LT:=ad (Sz N_) 71 ⟨[.agg [.int .i64,.int .i64,.rof]],[]⟩ [.i,.i,.fs] (λS_ c_ XK W9 Xu=>S_ XK W9 Xu (λr0=>c_ (vwi r0) [])) N_ (vK N_)
def SB (N_:Nat):LT:=ad (SA N_) 161 ⟨[.agg [.ptr 0 0,.int .i64]],[some (153,1,.cells [.bool,.roi .u32])]⟩ [.i,.b,.is] (λS_ c_ x b W0=>S_ x b W0 (λr2 r3 r4 r5=>c_ (.ptr 1 0) [⟨153,1,.cells [.bool b,vws W0]⟩,⟨155,1,.cells [.bool r2,vws r3,.bool r4,vws r5]⟩])) N_ (Rq N_)
def SC (N_:Nat):LT:=ad (SB N_) 103 ⟨[.agg [.int .i64,.int .i64,.rl RT3]],[]⟩ [.i,.i,.r RT3] (λS_ c_ XK W9 Xu=>S_ XK W9 Xu (λr0=>c_ (.bool r0) [])) N_ (Q2 N_)
def SD (N_:Nat):LT:=ad (SC N_) 134 ⟨[.ptr 0 0,.ptr 0 0,.ptr 1 0],[some (155,1,.cells [.bool,.roi .u32,.bool,.roi .u32]),some (155,1,.cells [.bool,.roi .u32,.bool,.roi .u32])]⟩ [.b,.is,.b,.is,.b,.is,.b,.is] (λS_ c_ b W0 W2 W7 Xd Xe Xn Xk=>S_ b W0 W2 W7 Xd Xe Xn Xk (λr0 r1 r2 r3=>c_ (.ptr 0 0) [⟨155,1,.cells [.bool r0,vws r1,.bool r2,vws r3]⟩,⟨155,1,.cells [.bool Xd,vws Xe,.bool Xn,vws Xk]⟩])) N_ (QS N_)
def SE (N_:Nat):LT:=ad (SD N_) 114 ⟨[.agg [.int .i64,.int .i64,.slw 0],.int .i64,.int .i64,.ptr 1 0],[some (148,1,.own 155 RT2),some (155,1,.cells [.bool,.roi .u32,.bool,.roi .u32])]⟩ [.i,.i,.i,.i,.r RT2,.b,.is,.b,.is] (λS_ c_ XK W9 i k_ b W0 W2 W7 Xd=>S_ XK W9 i k_ b W0 W2 W7 Xd (λr0=>c_ (.tup []) [⟨148,1,.own 155 RT2 r0 []⟩,⟨155,1,.cells [.bool W0,vws W2,.bool W7,vws Xd]⟩])) N_ (QZ N_)
def SF (N_:Nat):LT:=ad (SE N_) 82 ⟨[.agg [.int .i64,.int .i64,.rl RT3]],[]⟩ [.i,.i,.r RT3] (λS_ c_ XK W9 Xu=>S_ XK W9 Xu (λr0=>c_ (vwi r0) [])) N_ (Lx N_)
def SG (N_:Nat):LT:=ad (SF N_) 36 ⟨[.agg [.int .i64,.int .i64,.rof]],[]⟩ [.i,.i,.fs] (λS_ c_ XK W9 Xu=>S_ XK W9 Xu (λr0=>c_ (vwi r0) [])) N_ (Lt N_)
def SH (N_:Nat):LT:=ad (SG N_) 37 ⟨[.agg [.rl RT0],.int .i64,.fn 38 []],[]⟩ [.r RT0,.i] (λS_ c_ m ticks=>S_ m ticks (λr0 r1 r2=>c_ (.tup [.agg [vwi r0,vwi r1,.nil],vwi r2]) []) (λr0 r1 r2 r3=>c_ (.tup [.agg [vwi r0,vwi r1,.slw 0],vwi r2]) [⟨47,1,.flts r3⟩])) N_ (mq N_)
def SI (N_:Nat):LT:=ao (SH N_) 37 ⟨[.agg [.rl RT0],.int .i64,.fn 39 []],[]⟩ [.r RT0,.i] (λS_ c_ m ticks=>S_ m ticks (λr0 r1 r2=>c_ (.tup [.agg [vwi r0,vwi r1,.nil],vwi r2]) []) (λr0 r1 r2 r3=>c_ (.tup [.agg [vwi r0,vwi r1,.slw 0],vwi r2]) [⟨47,1,.flts r3⟩])) N_ (kl N_)
def SJ (N_:Nat):LT:=ad (SI N_) 40 ⟨[.agg [.int .i64,.int .i64,.rof],.int .i64],[]⟩ [.i,.i,.fs,.i] (λS_ c_ XK W9 Xu n=>S_ XK W9 Xu n (λr0=>c_ (vwi r0) [])) N_ (nq N_)
def SK (N_:Nat):LT:=upM Pg jp N_ fmd (SJ N_) [18,17,128,159,147]
def SL (N_:Nat):LT:=ad (SK N_) 125 ⟨[.flt],[]⟩ [.f] (λS_ c_ x=>S_ x (λr0 r1 r2 r3=>c_ (.agg [.rp [.bool r0,vwr r1,.bool r2,vwr r3] 0]) [])) N_ (kn N_)
def SM (N_:Nat):LT:=ad (SL N_) 99 ⟨[.agg [.int .i64,.int .i64,.rof]],[]⟩ [.i,.i,.fs] (λS_ c_ XK W9 Xu=>S_ XK W9 Xu (λr2=>c_ (.agg [vwi XK,vwi W9,.slw 0]) [⟨169,1,.recs RT1 r2⟩])) N_ (js N_)
def SN (N_:Nat):LT:=ad (SM N_) 127 ⟨[.agg [.int .i64,.int .i64,.slw 0]],[some (169,1,.recs RT1)]⟩ [.i,.i,.r RT1] (λS_ c_ g_0 YU b=>S_ g_0 YU b (λr0 r1=>c_ (vwi r0) [⟨169,1,.recs RT1 r1⟩])) N_ (dA N_)
def SO (N_:Nat):LT:=ad (SN N_) 102 ⟨[.agg [.int .i64,.int .i64,.rof]],[]⟩ [.i,.i,.fs] (λS_ c_ XK W9 Xu=>S_ XK W9 Xu (λr2=>c_ (.agg [vwi XK,vwi W9,.slw 0]) [⟨148,1,.own 155 RT2 r2 []⟩])) N_ (sJ N_)
def SP (N_:Nat):LT:=ad (SO N_) 70 ⟨[.agg [.int .i64,.int .i64,.rof]],[]⟩ [.i,.i,.fs] (λS_ c_ XK W9 Xu=>S_ XK W9 Xu (λr0 r1=>c_ (.tup [vwi r0,vwi r1]) [])) N_ (pM N_)
def SQ (N_:Nat):LT:=upM Pg jp N_ fmd (SP N_) [35,100]
def SR (N_:Nat):LT:=ad (SQ N_) 65 ⟨[.agg [.int .i64,.int .i64,.rof]],[]⟩ [.i,.i,.fs] (λS_ c_ XK W9 Xu=>S_ XK W9 Xu (λr0 r1=>c_ (.tup [vwi r0,vwi r1]) [])) N_ (km N_)
def SS (N_:Nat):LT:=upM Pg jp N_ fmd (SR N_) [28]
def SU (N_:Nat):LT:=ad (SS N_) 11 ⟨[.agg [.rof,.int .i64,.int .i64,.rof]],[]⟩ [.fs,.i,.i,.fs] (λS_ c_ XC Xj Xr Xt=>S_ XC Xj Xr Xt (λr0=>c_ (vwi r0) [])) N_ (ol N_)
def SV (N_:Nat):LT:=ad (SU N_) 66 ⟨[.agg [.rof,.int .i64,.int .i64,.rof],.rof,.flt],[]⟩ [.fs,.i,.i,.fs,.fs,.f] (λS_ c_ XC Xj Xr Xt h r=>S_ XC Xj Xr Xt h r (λr0=>c_ (.tup [.val (.pointer none),vwi r0]) []) (λr0 r1 r8 r9 r10=>c_ (.tup [.ptr 0 0,vwi r0]) [⟨109,1,.cells [.bool r1,.rof XC,vwi Xj,vwi Xr,.rof Xt,.rof h,.flt r,.flt r8,.slw 1,.nil,.flt r9]⟩,⟨47,1,.flts r10⟩])) N_ (mp N_)
def SW (N_:Nat):LT:=ad (SV N_) 47 ⟨[.ptr 0 0,.slw 1,.agg [.int .i64,.int .i64,.slw 2]],[some (109,1,.cells [.bool,.rof,.int .i64,.int .i64,.rof,.rof,.flt,.flt,.slw 3,.slw 4,.flt]),some (47,1,.flts),some (47,1,.flts),some (47,1,.flts),some (47,1,.flts)]⟩ [.i,.i,.b,.fs,.i,.i,.fs,.fs,.f,.f,.f,.fs,.fs,.fs,.fs] (λS_ c_ p_0 Z9 b W0 W2 W7 Xd Xe Xn Xk Xw Xy W5 Xo XR=>S_ p_0 Z9 b W0 W2 W7 Xd Xe Xn Xk Xw Xy W5 Xo XR (λr0 r1 r2=>c_ (.tup [.agg [.nil,vwi r0,vwi r1,.nil],vwi r2]) [⟨109,1,.cells [.bool b,.rof W0,vwi W2,vwi W7,.rof Xd,.rof Xe,.flt Xn,.flt Xk,.slw 3,.slw 4,.flt Xw]⟩,⟨47,1,.flts Xy⟩,⟨47,1,.flts W5⟩,⟨47,1,.flts Xo⟩,⟨47,1,.flts XR⟩]) (λr2=>c_ (.tup [.agg [.slw 1,vwi p_0,vwi Z9,.slw 2],vwi r2]) [⟨109,1,.cells [.bool b,.rof W0,vwi W2,vwi W7,.rof Xd,.rof Xe,.flt Xn,.flt Xk,.slw 3,.slw 4,.flt Xw]⟩,⟨47,1,.flts Xy⟩,⟨47,1,.flts W5⟩,⟨47,1,.flts Xo⟩,⟨47,1,.flts XR⟩])) N_ (bT N_)
def SX (N_:Nat):LT:=ad (SW N_) 30 ⟨[.agg [.rof,.int .i64,.int .i64,.rof],.rof,.flt,.flt,.fn 31 []],[]⟩ [.fs,.i,.i,.fs,.fs,.f,.f] (λS_ c_ XC Xj Xr Xt h r z=>S_ XC Xj Xr Xt h r z (λr0 r1 r2 r3 r4 r5=>c_ (.tup [.agg [.nil,vwi r0,vwi r1,.nil],.agg [.flt r2,.flt r3,.flt r4,.nil],vwi r5]) []) (λr0 r1 r2 r3 r4 r5 r6=>c_ (.tup [.agg [.nil,vwi r0,vwi r1,.nil],.agg [.flt r2,.flt r3,.flt r4,.slw 0],vwi r5]) [⟨47,1,.flts r6⟩]) (λr0 r1 r2 r3 r4 r5 r6 r7 r8=>c_ (.tup [.agg [.slw 0,vwi r0,vwi r1,.slw 1],.agg [.flt r2,.flt r3,.flt r4,.slw 2],vwi r5]) [⟨47,1,.flts r6⟩,⟨47,1,.flts r7⟩,⟨47,1,.flts r8⟩])) N_ (kR N_)
def SY (N_:Nat):LT:=ad (SX N_) 13 ⟨[.agg [.rof,.int .i64,.int .i64,.rof],.rof,.flt,.flt],[]⟩ [.fs,.i,.i,.fs,.fs,.f,.f] (λS_ c_ XC Xj Xr Xt h r z=>S_ XC Xj Xr Xt h r z (λr0 r1 r2 r3 r4 r5=>c_ (.tup [.agg [.nil,vwi r0,vwi r1,.nil],.agg [.flt r2,.flt r3,.flt r4,.nil],vwi r5]) []) (λr0 r1 r2 r3 r4 r5 r6=>c_ (.tup [.agg [.nil,vwi r0,vwi r1,.nil],.agg [.flt r2,.flt r3,.flt r4,.slw 0],vwi r5]) [⟨47,1,.flts r6⟩]) (λr0 r1 r2 r3 r4 r5 r6 r7 r8=>c_ (.tup [.agg [.slw 0,vwi r0,vwi r1,.slw 1],.agg [.flt r2,.flt r3,.flt r4,.slw 2],vwi r5]) [⟨47,1,.flts r6⟩,⟨47,1,.flts r7⟩,⟨47,1,.flts r8⟩])) N_ (np N_)
def SZ (N_:Nat):LT:=ad (SY N_) 10 ⟨[],[]⟩ [] (λS_ c_=>S_ (λr0=>c_ (.bool r0) [])) N_ (Ui N_)
def S0 (N_:Nat):LT:=ao (SZ N_) 30 ⟨[.agg [.rof,.int .i64,.int .i64,.rof],.rof,.flt,.flt,.fn 33 []],[]⟩ [.fs,.i,.i,.fs,.fs,.f,.f] (λS_ c_ XC Xj Xr Xt h r z=>S_ XC Xj Xr Xt h r z (λr0 r1 r2 r3 r4 r5=>c_ (.tup [.agg [.nil,vwi r0,vwi r1,.nil],.agg [.flt r2,.flt r3,.flt r4,.nil],vwi r5]) []) (λr0 r1 r2 r3 r4 r5 r6=>c_ (.tup [.agg [.nil,vwi r0,vwi r1,.nil],.agg [.flt r2,.flt r3,.flt r4,.slw 0],vwi r5]) [⟨47,1,.flts r6⟩]) (λr0 r1 r2 r3 r4 r5 r6 r7 r8=>c_ (.tup [.agg [.slw 0,vwi r0,vwi r1,.slw 1],.agg [.flt r2,.flt r3,.flt r4,.slw 2],vwi r5]) [⟨47,1,.flts r6⟩,⟨47,1,.flts r7⟩,⟨47,1,.flts r8⟩])) N_ (jr N_)
def S1 (N_:Nat):LT:=ad (S0 N_) 15 ⟨[.agg [.rof,.int .i64,.int .i64,.rof],.rof,.flt,.flt],[]⟩ [.fs,.i,.i,.fs,.fs,.f,.f] (λS_ c_ XC Xj Xr Xt h r z=>S_ XC Xj Xr Xt h r z (λr0 r1 r2 r3 r4 r5=>c_ (.tup [.agg [.nil,vwi r0,vwi r1,.nil],.agg [.flt r2,.flt r3,.flt r4,.nil],vwi r5]) []) (λr0 r1 r2 r3 r4 r5 r6=>c_ (.tup [.agg [.nil,vwi r0,vwi r1,.nil],.agg [.flt r2,.flt r3,.flt r4,.slw 0],vwi r5]) [⟨47,1,.flts r6⟩]) (λr0 r1 r2 r3 r4 r5 r6 r7 r8=>c_ (.tup [.agg [.slw 0,vwi r0,vwi r1,.slw 1],.agg [.flt r2,.flt r3,.flt r4,.slw 2],vwi r5]) [⟨47,1,.flts r6⟩,⟨47,1,.flts r7⟩,⟨47,1,.flts r8⟩])) N_ (om N_)
def S2 (N_:Nat):LT:=ad (S1 N_) 16 ⟨[.agg [.rof,.int .i64,.int .i64,.rof]],[]⟩ [.fs,.i,.i,.fs] (λS_ c_ XC Xj Xr Xt=>S_ XC Xj Xr Xt (λr0=>c_ (.bool r0) [])) N_ (GQ0 N_)
def S3 (N_:Nat):LT:=ao (S2 N_) 47 ⟨[.ptr 0 0,.slw 1,.agg [.int .i64,.int .i64,.slw 2]],[some (81,1,.cells [.bool]),some (47,1,.flts),some (47,1,.flts)]⟩ [.i,.i,.b,.fs,.fs] (λS_ c_ p_0 Z9 b W0 W2=>S_ p_0 Z9 b W0 W2 (λr0 r1 r2=>c_ (.tup [.agg [.nil,vwi r0,vwi r1,.nil],vwi r2]) [⟨81,1,.cells [.bool b]⟩,⟨47,1,.flts W0⟩,⟨47,1,.flts W2⟩]) (λr2=>c_ (.tup [.agg [.slw 1,vwi p_0,vwi Z9,.slw 2],vwi r2]) [⟨81,1,.cells [.bool b]⟩,⟨47,1,.flts W0⟩,⟨47,1,.flts W2⟩])) N_ (fQ N_)
def S4 (N_:Nat):LT:=ad (S3 N_) 19 ⟨[.agg [.rof,.int .i64,.int .i64,.rof],.agg [.int .i64,.int .i64,.rof],.agg [.int .i64,.int .i64,.rof]],[]⟩ [.fs,.i,.i,.fs,.i,.i,.fs,.i,.i,.fs] (λS_ c_ XC Xj Xr Xt YD YE YL q_0 q_1 q_2=>S_ XC Xj Xr Xt YD YE YL q_0 q_1 q_2 (λr0 r1 r2=>c_ (.tup [.agg [.nil,vwi r0,vwi r1,.nil],vwi r2]) []) (λr0 r1 r2 r3 r4=>c_ (.tup [.agg [.slw 0,vwi r0,vwi r1,.slw 1],vwi r2]) [⟨47,1,.flts r3⟩,⟨47,1,.flts r4⟩])) N_ (mo N_)
def Mj (N_:Nat):LT:=ad (S4 N_) 6 ⟨[.agg [.rof,.int .i64,.int .i64,.rof],.agg [.rl RT0],.int .i64],[]⟩ [.fs,.i,.i,.fs,.r RT0,.i] (λS_ c_ XC Xj Xr Xt m ticks=>S_ XC Xj Xr Xt m ticks (λr0 r1 r2=>c_ (.tup [.agg [.nil,vwi r0,vwi r1,.nil],vwi r2]) []) (λr0 r1 r2 r3 r4=>c_ (.tup [.agg [.slw 0,vwi r0,vwi r1,.slw 1],vwi r2]) [⟨47,1,.flts r3⟩,⟨47,1,.flts r4⟩])) N_ (pJ N_)
def Og:FnSh:=⟨[.roi .u64,.int .i64,.roi .u64,.rl RT4,.agg [.rl RT0],.int .i64],[]⟩
end
theorem OU (w:World) (v:Value):Calls Tryz.prog 98 #[.nilIface,v] w λe w'=>e=.returned v/\w'=w:=
 OV (P:=Tryz.prog) (fc:=98) (fn:=Tryz.f98) (by kernel_rfl) (by kernel_rfl) (by kernel_rfl) rfl rfl rfl rfl rfl rfl rfl rfl rfl rfl rfl rfl rfl rfl rfl rfl rfl rfl rfl (λ_=>rfl) (λ_=>by kernel_rfl) w v
theorem Vh:B7 Tryz.prog 97:=
 MO (P:=Tryz.prog) (g:=97) (fc:=98) (fg:=Tryz.f97) (ff:=Tryz.f98) (by kernel_rfl) (by kernel_rfl) (by kernel_rfl) (by kernel_rfl) rfl (by kernel_rfl) (by kernel_rfl) (by kernel_rfl) (by kernel_rfl) (by kernel_rfl) rfl rfl rfl rfl rfl rfl rfl rfl rfl rfl rfl (by kernel_rfl) (by kernel_rfl) OU
theorem hD_:HD Tryz.prog jp:=by
 intro g hg h;have e:g=97:=by have h:=FY h; simp at h; omega
 rcases e with rfl
 exact Vh
end Go.Proofs.YtbiingchhnlcnaaGreatDoor
end
