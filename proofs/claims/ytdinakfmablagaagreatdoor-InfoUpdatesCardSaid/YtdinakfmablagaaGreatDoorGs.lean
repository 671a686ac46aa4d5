/- The program's functions and their ties. Conditions: none. -/
import Derived.Test.YtdinakfmablagaaGreatDoorGp
import Derived.Test.YtdinakfmablagaaGreatDoorMachT
import Derived.Test.YtdinakfmablagaaGreatDoorProg
set_option linter.unusedVariables false
section
namespace Go.Proofs.YtdinakfmablagaaGreatDoor
open Go Go.Mach Go.Proofs
set_option maxRecDepth 50000
abbrev KV:=V->List Blk->Bool
abbrev SPT:=List Atom->KV->Bool
noncomputable abbrev Pg:Program:=Tryz.prog
def vqs:Nat → List V → List V
  | 0,t=>t
  | n+1,t=>.any::vqs n t
abbrev vwi (z:Int):V:=.int .i64 z
abbrev vwu (z:Int):V:=.int .u64 z
abbrev vwv (z:Int):V:=.int .u32 z
abbrev vwr (l:LI):V:=.roi .u64 l
abbrev vws (l:LI):V:=.roi .u32 l
theorem S9 {p:Nat → Prop} (h:p 0):∀ i,i<1 → p i
 | 0,_=>h
 | _+1,g=>by omega
theorem Sj {p:Nat → Prop} (h:p 0) (h1:p 1):∀ i,i<2 → p i
 | 0,_=>h
 | 1,_=>h1
 | _+2,g=>by omega
def sqs:Nat → List Sh → List Sh
 | 0,t=>t
 | n+1,t=>.any::sqs n t
noncomputable def jp:Nat->Bool:=LG [134,206,171,50,32,30,10,20,12,21,16,15,92,91,57,54,286,259,305,316,17,109,97,96,160,157,156,90,204,228,201,203,226,227,242,216,269,245,217,183,265,312,306,254,283,284,1000318,1000209,1000207,2000180,3000090,3000048,3000047,4000230,4000061]
abbrev LT:=List (Nat × Fs)
abbrev TbS (A B:Nat->LT):Prop:=∀ N,OKL Pg jp (A N)->OKL Pg jp (B N)
noncomputable def fmd:Nat->Nat:=λg=>(cond (LG [120,171,202,237,238,239,240,241,251,252,259,260,261,268,274,275,296,302,312] g) 1 (cond (LG [243,246,247,270,271] g) 2 0))
noncomputable section
def L0 (N_:Nat):LT:=[]
def R7:FnSh:=⟨[.fb],[]⟩
def Pj (YK:J_):SPT:=λa_ c_=>match a_ with
 | [.nat a0]=>YK a0 (λr0=>c_ (vwu r0) [])
 | _=>false
abbrev Sk (YK:J_):Fs:=eg R7 (Pj YK)
def L1 (N_:Nat):LT:=(19,(Sk (BV N_)))::L0 N_
def Ox:FnSh:=⟨[.int .u64],[]⟩
def Mu (XW:EF):SPT:=λa_ c_=>match a_ with
 | [.int a0]=>XW a0 (λr0=>c_ (.flt r0) [])
 | _=>false
abbrev Jk (XW:EF):Fs:=eg Ox (Mu XW)
def L2 (N_:Nat):LT:=(44,(Jk (wH N_)))::L1 N_
def L3 (N_:Nat):LT:=ad (L2 N_) 9 ⟨[.roi .u64],[]⟩ [.is] (λS_ c_ l=>S_ l (λr0=>c_ (.slw 0) [⟨36,1,.flts r0⟩])) N_ (sD N_)
def Mr:FnSh:=⟨[.flt],[]⟩
def Pk (YN:Kb):SPT:=λa_ c_=>match a_ with
 | [.fl a0]=>YN a0 (λr0=>c_ (vwu r0) [])
 | _=>false
abbrev Ps (YN:Kb):Fs:=eg Mr (Pk YN)
def L4 (N_:Nat):LT:=(19,(BN (Ps (tB N_)) (ofL (L3 N_) 19) Mr))::L3 N_
def L5 (N_:Nat):LT:=ad (L4 N_) 285 ⟨[.int .u64],[]⟩ [.i] (λS_ c_ x=>S_ x (λr0=>c_ (vwi r0) [])) N_ (GQ9 N_)
def L6 (N_:Nat):LT:=ad (L5 N_) 286 ⟨[.slw 0],[some (23,1,.ints .u64)]⟩ [.is] (λS_ c_ b=>S_ b (λr0=>c_ (.sl 0 0 r0) [⟨23,1,.ints .u64 b⟩])) N_ (PL N_)
def L7 (N_:Nat):LT:=ad (L6 N_) 262 ⟨[.roi .u64,.int .u64],[]⟩ [.is,.i] (λS_ c_ x n=>S_ x n (λr0=>c_ (vwr r0) [])) N_ (sy N_)
def L8 (N_:Nat):LT:=ad (L7 N_) 288 ⟨[.roi .u64,.roi .u64],[]⟩ [.is,.is] (λS_ c_ x y=>S_ x y (λr0=>c_ (vwi r0) [])) N_ (JB N_)
def L9 (N_:Nat):LT:=ad (L8 N_) 311 ⟨[.int .u64],[]⟩ [.i] (λS_ c_ x=>S_ x (λr0=>c_ (vwi r0) [])) N_ (PY N_)
def L10 (N_:Nat):LT:=ad (L9 N_) 298 ⟨[.roi .u64],[]⟩ [.is] (λS_ c_ x=>S_ x (λr0=>c_ (vwi r0) [])) N_ (n_ N_)
def L11 (N_:Nat):LT:=ad (L10 N_) 299 ⟨[.int .u64,.int .u64],[]⟩ [.i,.i] (λS_ c_ x y=>S_ x y (λr0 r1 r2 r3 r4=>c_ (.agg [vwu r0,vwu r1,vwu r2,vwu r3,.bool r4]) [])) N_ (vM N_)
def L12 (N_:Nat):LT:=ad (L11 N_) 307 ⟨[.int .u64,.int .u64],[]⟩ [.i,.i] (λS_ c_ x y=>S_ x y (λr0 r1=>c_ (.tup [vwu r0,vwu r1]) [])) N_ (Jy N_)
def Tk:FnSh:=⟨[.int .u64,.int .u64,.int .u64],[]⟩
def To (Zx:Rd):SPT:=λa_ c_=>match a_ with
 | [.int a0,.int a1,.int a2]=>Zx a0 a1 a2 (λr0 r1=>c_ (.tup [vwu r0,vwu r1]) [])
 | _=>false
abbrev FQ3 (Zx:Rd):Fs:=eg Tk (To Zx)
def L13 (N_:Nat):LT:=(308,(FQ3 (sQ3 N_)))::L12 N_
def L14 (N_:Nat):LT:=ad (L13 N_) 290 ⟨[.int .u64,.int .u64,.int .u64,.int .u64],[]⟩ [.i,.i,.i,.i] (λS_ c_ a b c d=>S_ a b c d (λr0 r1=>c_ (.tup [vwu r0,vwu r1]) [])) N_ (sx N_)
def L15 (N_:Nat):LT:=ad (L14 N_) 314 ⟨[.roi .u64,.int .u64,.int .u64],[]⟩ [.is,.i,.i] (λS_ c_ x d more=>S_ x d more (λr0=>c_ (vwr r0) [])) N_ (JL N_)
def Tl:FnSh:=⟨[.int .u64,.int .u64,.int .u64],[]⟩
def Tp (Zy:Re):SPT:=λa_ c_=>match a_ with
 | [.int a0,.int a1,.int a2]=>Zy a0 a1 a2 (λr0 r1=>c_ (.tup [vwu r0,vwu r1]) [])
 | _=>false
abbrev FQ4 (Zy:Re):Fs:=eg Tl (Tp Zy)
def L16 (N_:Nat):LT:=(317,(FQ4 (sQ4 N_)))::L15 N_
def L17 (N_:Nat):LT:=ao (L16 N_) 286 ⟨[.sl 0],[some (23,1,.ints .u64)]⟩ [.n,.n,.is] (λS_ c_ Vu Ve b=>S_ Vu Ve b (λr1=>c_ (.sl 0 Vu r1) [⟨23,1,.ints .u64 b⟩])) N_ (oa N_)
def L18 (N_:Nat):LT:=ad (L17 N_) 266 ⟨[.roi .u64,.roi .u64],[]⟩ [.is,.is] (λS_ c_ x y=>S_ x y (λr0=>c_ (vwr r0) [])) N_ (Qa N_)
def L19 (N_:Nat):LT:=ad (L18 N_) 242 ⟨[.agg [.int .i64,.int .i64,.slw 0],.int .i64,.int .i64],[some (249,1,.recs RT0)]⟩ [.i,.i,.i,.i,.r RT0] (λS_ c_ WV VP i j b=>S_ WV VP i j b (λr0 r1 r2 r3=>c_ (.agg [.rp [.bool r0,vwr r1,.bool r2,vwr r3] 0]) [⟨249,1,.recs RT0 b⟩])) N_ (eQ N_)
def L20 (N_:Nat):LT:=ad (L19 N_) 293 ⟨[.rp [.bool,.roi .u64,.bool,.roi .u64] 0],[]⟩ [.b,.is,.b,.is] (λS_ c_ Vu Ve Vs Vx=>S_ Vu Ve Vs Vx (λr0=>c_ (vwi r0) [])) N_ (JV N_)
def I4:FnSh:=⟨[.flt],[]⟩
def zn (W0:xL):SPT:=λa_ c_=>match a_ with
 | [.fl x]=>W0 x (λr0=>c_ (.flt r0) [])
 | _=>false
abbrev Ga (W0:xL):Fs:=eg I4 (zn W0)
def L21 (N_:Nat):LT:=(167,(Ga (uC N_)))::L20 N_
def Mq:FnSh:=⟨[.fb],[]⟩
def Mx (YM:OQ):SPT:=λa_ c_=>match a_ with
 | [.nat x]=>YM x (λr0=>c_ (.flt r0) [])
 | _=>false
abbrev Pq (YM:OQ):Fs:=eg Mq (Mx YM)
def L22 (N_:Nat):LT:=ad (L21 N_) 107 ⟨[.flt,.int .i64],[]⟩ [.f,.i] (λS_ c_ f sign=>S_ f sign (λr0=>c_ (.bool r0) [])) N_ (ra N_)
def L23 (N_:Nat):LT:=ad1 1 (L22 N_) 47 ⟨[.ptr 0 0,.flt],[some (107,1,.cells [.bool])]⟩ [.f,.b] (λS_ c_ x b=>S_ x b (λr1=>c_ (.flt x) (.bool r1))) N_ (Pw N_)
def L24 (N_:Nat):LT:=ad1 1 (L23 N_) 48 ⟨[.ptr 0 0,.flt,.flt],[some (107,1,.cells [.bool])]⟩ [.f,.f,.b] (λS_ c_ a b UV=>S_ a b UV (λr0 r1=>c_ (.flt r0) (.bool r1))) N_ (Jw N_)
def L25 (N_:Nat):LT:=ad (L24 N_) 46 ⟨[.ptr 0 0,.int .i64,.int .i64,.ptr 1 0,.ptr 2 0],[some (107,1,.cells [.bool]),some (26,1,.cells [.slw 3]),some (36,1,.cells [.flt]),some (36,1,.flts)]⟩ [.i,.i,.b,.f,.fs] (λS_ c_ i j b UV UX=>S_ i j b UV UX (λr0 r1=>c_ (.flt r0) [⟨107,1,.cells [.bool r1]⟩,⟨26,1,.cells [.slw 3]⟩,⟨36,1,.cells [.flt UV]⟩,⟨36,1,.flts UX⟩])) N_ (d_ N_)
def L26 (N_:Nat):LT:=ad (L25 N_) 49 ⟨[.ptr 0 0,.int .i64,.int .i64,.ptr 1 0,.ptr 2 0,.ptr 3 0],[some (107,1,.cells [.bool]),some (26,1,.cells [.slw 4]),some (36,1,.cells [.flt]),some (36,1,.cells [.flt]),some (36,1,.flts)]⟩ [.i,.i,.b,.f,.f,.fs] (λS_ c_ i v_ b UV UX U9=>S_ i v_ b UV UX U9 (λr0 r1=>c_ (.flt r0) [⟨107,1,.cells [.bool r1]⟩,⟨26,1,.cells [.slw 4]⟩,⟨36,1,.cells [.flt UV]⟩,⟨36,1,.cells [.flt UX]⟩,⟨36,1,.flts U9⟩])) N_ (dr N_)
def L27 (N_:Nat):LT:=ad1 2 (L26 N_) 61 ⟨[.ptr 0 0],[some (107,1,.cells [.bool])]⟩ [.b] (λS_ c_ b=>S_ b (c_ (.bool b) (.any))) N_ (J0 N_)
def L28 (N_:Nat):LT:=ad (L27 N_) 191 ⟨[.int .i64,.int .i64,.int .i64],[]⟩ [.i,.i,.i] (λS_ c_ rows cols n=>S_ rows cols n (λr0=>c_ (vwi r0) [])) N_ (pW N_)
def L29 (N_:Nat):LT:=ad (L28 N_) 169 ⟨[.int .i64,.int .u64,.int .i64],[]⟩ [.i,.i,.i] (λS_ c_ exp frac most=>S_ exp frac most (λr0=>c_ (vwi r0) [])) N_ (JX N_)
def L30 (N_:Nat):LT:=ad (L29 N_) 170 ⟨[.int .u64,.int .i64],[]⟩ [.i,.i] (λS_ c_ m e=>S_ m e (λr0 r1=>c_ (.tup [vwu r0,vwi r1]) [])) N_ (re N_)
def L31 (N_:Nat):LT:=ad (L30 N_) 206 ⟨[.slw 0],[some (238,1,.ints .u32)]⟩ [.is] (λS_ c_ b=>S_ b (λr0=>c_ (.sl 0 0 r0) [⟨238,1,.ints .u32 b⟩])) N_ (PF N_)
def L32 (N_:Nat):LT:=ad (L31 N_) 172 ⟨[.int .u64],[]⟩ [.i] (λS_ c_ n=>S_ n (λr0=>c_ (vws r0) [])) N_ (JS N_)
def L33 (N_:Nat):LT:=ao (L32 N_) 206 ⟨[.roi .u32],[]⟩ [.is] (λS_ c_ m=>S_ m (λr0=>c_ (vws r0) [])) N_ (uP N_)
def L34 (N_:Nat):LT:=ad (L33 N_) 210 ⟨[.roi .u32,.int .u64],[]⟩ [.is,.i] (λS_ c_ m n=>S_ m n (λr0=>c_ (vws r0) [])) N_ (sB N_)
def L35 (N_:Nat):LT:=ad (L34 N_) 276 ⟨[.int .u32],[]⟩ [.i] (λS_ c_ x=>S_ x (λr0=>c_ (vwi r0) [])) N_ (GQ8 N_)
def L36 (N_:Nat):LT:=ad (L35 N_) 253 ⟨[.ptr 0 0],[some (158,1,.cells [.bool,.roi .u32])]⟩ [.b,.is] (λS_ c_ b UV=>S_ b UV (λr0=>c_ (vwu r0) [⟨158,1,.cells [.bool b,vws UV]⟩])) N_ (GQ1 N_)
def L37 (N_:Nat):LT:=ad (L36 N_) 254 ⟨[.roi .u32,.int .u64],[]⟩ [.is,.i] (λS_ c_ m n=>S_ m n (λr0=>c_ (vws r0) [])) N_ (PZ N_)
def L38 (N_:Nat):LT:=ad (L37 N_) 277 ⟨[.int .u32],[]⟩ [.i] (λS_ c_ x=>S_ x (λr0=>c_ (vwi r0) [])) N_ (JF N_)
def L39 (N_:Nat):LT:=ad (L38 N_) 255 ⟨[.ptr 0 0],[some (158,1,.cells [.bool,.roi .u32])]⟩ [.b,.is] (λS_ c_ b UV=>S_ b UV (λr0=>c_ (vwi r0) [⟨158,1,.cells [.bool b,vws UV]⟩])) N_ (PX N_)
def L40 (N_:Nat):LT:=ad (L39 N_) 208 ⟨[.roi .u32,.roi .u32],[]⟩ [.is,.is] (λS_ c_ a b=>S_ a b (λr0=>c_ (vwi r0) [])) N_ (P8 N_)
def L41 (N_:Nat):LT:=ad (L40 N_) 279 ⟨[.roi .u32,.int .i64],[]⟩ [.is,.i] (λS_ c_ m ZB=>S_ m ZB (λr0=>c_ (vwu r0) [])) N_ (sA N_)
def L42 (N_:Nat):LT:=ad (L41 N_) 278 ⟨[.int .u64,.int .u64],[]⟩ [.i,.i] (λS_ c_ x y=>S_ x y (λr0 r1 r2 r3=>c_ (.tup [vwi r0,vwi r1,vwi r2,vwi r3]) [])) N_ (pS N_)
def L43 (N_:Nat):LT:=ad (L42 N_) 281 ⟨[.roi .u32,.int .u32],[]⟩ [.is,.i] (λS_ c_ m d=>S_ m d (λr0 r1=>c_ (.tup [vws r0,vwv r1]) [])) N_ (pR N_)
def L44 (N_:Nat):LT:=ad (L43 N_) 283 ⟨[.sl 0,.sl 1,.int .i64,.int .u64],[some (238,1,.ints .u32),some (238,1,.ints .u32)]⟩ [.n,.n,.n,.n,.i,.i,.is,.is] (λS_ c_ VC VD YR Vv j g b UV=>S_ VC VD YR Vv j g b UV (λr0 r1=>c_ (.bool r0) [⟨238,1,.ints .u32 r1⟩,⟨238,1,.ints .u32 UV⟩])) N_ (JN N_)
def L45 (N_:Nat):LT:=ad (L44 N_) 284 ⟨[.sl 0,.sl 1,.int .i64],[some (238,1,.ints .u32),some (238,1,.ints .u32)]⟩ [.n,.n,.n,.n,.i,.is,.is] (λS_ c_ VC VD YR Vv j b UV=>S_ VC VD YR Vv j b UV (λr0=>c_ (.tup []) [⟨238,1,.ints .u32 r0⟩,⟨238,1,.ints .u32 UV⟩])) N_ (JO N_)
def L46 (N_:Nat):LT:=ao (L45 N_) 206 ⟨[.sl 0],[some (238,1,.ints .u32)]⟩ [.n,.n,.is] (λS_ c_ Vk U5 b=>S_ Vk U5 b (λr1=>c_ (.sl 0 Vk r1) [⟨238,1,.ints .u32 b⟩])) N_ (pP N_)
def L47 (N_:Nat):LT:=ao (L46 N_) 254 ⟨[.sl 0,.int .u64],[some (238,1,.ints .u32)]⟩ [.n,.n,.i,.is] (λS_ c_ Vk U5 n b=>S_ Vk U5 n b (λr0=>c_ (vws r0) [⟨238,1,.ints .u32 b⟩])) N_ (JU N_)
def L48 (N_:Nat):LT:=ad (L47 N_) 175 ⟨[.roi .u32,.roi .u32],[]⟩ [.is,.is] (λS_ c_ a b=>S_ a b (λr0=>c_ (vws r0) [])) N_ (Jm N_)
def L49 (N_:Nat):LT:=ad (L48 N_) 209 ⟨[.roi .u32,.roi .u32],[]⟩ [.is,.is] (λS_ c_ a b=>S_ a b (λr0=>c_ (vws r0) [])) N_ (pQ N_)
def L50 (N_:Nat):LT:=ad (L49 N_) 297 ⟨[.roi .u32,.int .u64,.roi .u32,.int .u64],[]⟩ [.is,.i,.is,.i] (λS_ c_ a u b v=>S_ a u b v (λr0=>c_ (vws r0) [])) N_ (JW N_)
def L51 (N_:Nat):LT:=ad (L50 N_) 280 ⟨[.roi .u32,.int .i64,.roi .u32,.int .i64],[]⟩ [.is,.i,.is,.i] (λS_ c_ a u b v=>S_ a u b v (λr0=>c_ (vws r0) [])) N_ (rb N_)
def L52 (N_:Nat):LT:=ad (L51 N_) 225 ⟨[.int .i64,.int .i64],[]⟩ [.i,.i] (λS_ c_ rows cols=>S_ rows cols (λr2=>c_ (.agg [vwi rows,vwi cols,.slw 0]) [⟨231,1,.own 235 RT1 r2 []⟩])) N_ (oc N_)
def L53 (N_:Nat):LT:=ad (L52 N_) 115 ⟨[.rp [.bool,.roi .u32,.bool,.roi .u32] 0],[]⟩ [.b,.is,.b,.is] (λS_ c_ ZU VI XN XE=>S_ ZU VI XN XE (λr0=>c_ (vwi r0) [])) N_ (uR N_)
def L54 (N_:Nat):LT:=ad (L53 N_) 207 ⟨[.roi .u32,.roi .u32],[]⟩ [.is,.is] (λS_ c_ a b=>S_ a b (λr0=>c_ (vws r0) [])) N_ (sC N_)
def L55 (N_:Nat):LT:=ad (L54 N_) 43 ⟨[.rof,.rof],[]⟩ [.fs,.fs] (λS_ c_ a b=>S_ a b (λr0=>c_ (.bool r0) [])) N_ (PE N_)
def L56 (N_:Nat):LT:=ad (L55 N_) 58 ⟨[.agg [.int .i64,.int .i64,.rof],.agg [.int .i64,.int .i64,.rof]],[]⟩ [.i,.i,.fs,.i,.i,.fs] (λS_ c_ Vq U_ Vz Xa UV UX=>S_ Vq U_ Vz Xa UV UX (λr0=>c_ (.bool r0) [])) N_ (MN N_)
def Oy:FnSh:=⟨[.flt],[]⟩
def Mv (XX:EG):SPT:=λa_ c_=>match a_ with
 | [.fl a0]=>XX a0 (λr0=>c_ (.flt r0) [])
 | _=>false
abbrev OC (XX:EG):Fs:=eg Oy (Mv XX)
def L57 (N_:Nat):LT:=(110,(OC (Mj N_)))::L56 N_
def iW:FnSh:=⟨[.rof],[]⟩
def dJ (Vb:ca):SPT:=λa_ c_=>match a_ with
 | [.fls s]=>Vb s (λr0=>c_ (.slw 0) [⟨36,1,.flts r0⟩])
 | _=>false
abbrev dM (Vb:ca):Fs:=eg iW (dJ Vb)
def L58 (N_:Nat):LT:=(60,(dM (aO N_)))::L57 N_
def L59 (N_:Nat):LT:=ad (L58 N_) 62 ⟨[.agg [.flt,.flt],.ptr 0 0,.flt,.flt],[some (107,1,.cells [.bool])]⟩ [.f,.f,.f,.f,.b] (λS_ c_ Yw Xl a b UV=>S_ Yw Xl a b UV (λr0 r1 r2=>c_ (.tup [.flt r0,.flt r1]) [⟨107,1,.cells [.bool r2]⟩])) N_ (dO N_)
def L60 (N_:Nat):LT:=ad (L59 N_) 17 ⟨[.slw 0],[some (26,1,.cells [.slw 1,.slw 2]),some (36,1,.flts),some (36,1,.flts)]⟩ [.fs,.fs] (λS_ c_ b UV=>S_ b UV (λr0 r1=>c_ (.tup []) [⟨26,1,.cells [.slw 1,.slw 2]⟩,⟨36,1,.flts r0⟩,⟨36,1,.flts r1⟩])) N_ (Pv N_)
def Pf:FnSh:=⟨[],[]⟩
def R9 (Zw:Rb):SPT:=λa_ c_=>match a_ with
 | []=>Zw (λr0=>c_ (.bool r0) [])
 | _=>false
abbrev FQ0 (Zw:Rb):Fs:=eg Pf (R9 Zw)
def L61 (N_:Nat):LT:=(22,(FQ0 (sQ0 N_)))::L60 N_
def L62 (N_:Nat):LT:=upM Pg jp N_ fmd (L61 N_) [64,63,18,59,14,13,54,53,202,201,282,252,171,56,192,269,244,268,296,241,302,304,312,237,261,259,260,214,124,121,11,8,232,233,231,178]
def L63 (N_:Nat):LT:=ad (L62 N_) 212 ⟨[.int .u64,.agg [.int .u64,.int .i64,.int .i64]],[]⟩ [.i,.i,.i,.i] (λS_ c_ b VR VY V7=>S_ b VR VY V7 (λr0=>c_ (.bool r0) [])) N_ (JA N_)
def L64 (N_:Nat):LT:=ad (L63 N_) 213 ⟨[.agg [.int .u64,.int .i64,.int .i64]],[]⟩ [.i,.i,.i] (λS_ c_ VR VY V7=>S_ VR VY V7 (λr0=>c_ (vwu r0) [])) N_ (uO N_)
def L65 (N_:Nat):LT:=ad (L64 N_) 235 ⟨[.ptr 0 0,.int .u64],[some (264,1,.cells [.bool,.nil])]⟩ [.i,.b] (λS_ c_ n b=>S_ n b (λr0 r1=>c_ (.ptr 0 0) [⟨264,1,.cells [.bool r0,vwr r1]⟩])) N_ (Pz N_)
def L66 (N_:Nat):LT:=ad (L65 N_) 236 ⟨[.ptr 0 0,.ptr 0 0],[some (264,1,.cells [.bool,.roi .u64])]⟩ [.b,.is] (λS_ c_ b UV=>S_ b UV (λr0 r1=>c_ (.ptr 0 0) [⟨264,1,.cells [.bool r0,vwr r1]⟩])) N_ (PM N_)
def L67 (N_:Nat):LT:=ad (L66 N_) 263 ⟨[.ptr 0 0,.int .i64],[some (264,1,.cells [.bool,.nil])]⟩ [.i,.b] (λS_ c_ n b=>S_ n b (λr0 r1=>c_ (.ptr 0 0) [⟨264,1,.cells [.bool r0,vwr r1]⟩])) N_ (PP N_)
def L68 (N_:Nat):LT:=ad (L67 N_) 300 ⟨[.roi .u64,.int .i64],[]⟩ [.is,.i] (λS_ c_ x from_=>S_ x from_ (λr0=>c_ (vwu r0) [])) N_ (uN N_)
def L69 (N_:Nat):LT:=ad (L68 N_) 313 ⟨[.roi .u64,.roi .u64],[]⟩ [.is,.is] (λS_ c_ x y=>S_ x y (λr0=>c_ (vwr r0) [])) N_ (JT N_)
def L70 (N_:Nat):LT:=ad (L69 N_) 301 ⟨[.agg [.int .u64,.int .u64,.int .u64,.int .u64,.bool],.roi .u64,.roi .u64],[]⟩ [.i,.i,.i,.i,.b,.is,.is] (λS_ c_ Yz W_ VB Wi Ym x y=>S_ Yz W_ VB Wi Ym x y (λr0 r1=>c_ (.tup [vwr r0,vwr r1]) [])) N_ (dR N_)
def L71 (N_:Nat):LT:=ad (L70 N_) 315 ⟨[.int .u64,.int .u64,.int .u64],[]⟩ [.i,.i,.i] (λS_ c_ hi lo y=>S_ hi lo y (λr0 r1=>c_ (.tup [vwu r0,vwu r1]) [])) N_ (Jx N_)
def L72 (N_:Nat):LT:=ad (L71 N_) 303 ⟨[.roi .u64,.int .u64],[]⟩ [.is,.i] (λS_ c_ x d=>S_ x d (λr0 r1=>c_ (.tup [vwr r0,vwu r1]) [])) N_ (pN N_)
def L73 (N_:Nat):LT:=ad (L72 N_) 316 ⟨[.sl 0,.roi .u64],[some (23,1,.ints .u64)]⟩ [.n,.n,.is,.is] (λS_ c_ VC VD v b=>S_ VC VD v b (λr0=>c_ (vwu r0) [⟨23,1,.ints .u64 b⟩])) N_ (rX N_)
def L74 (N_:Nat):LT:=ad (L73 N_) 305 ⟨[.sl 0,.roi .u64],[some (23,1,.ints .u64)]⟩ [.n,.n,.is,.is] (λS_ c_ VC VD v b=>S_ VC VD v b (λr0 r1=>c_ (vwu r0) [⟨23,1,.ints .u64 r1⟩])) N_ (tQ N_)
def L75 (N_:Nat):LT:=ao (L74 N_) 316 ⟨[.sl 0,.sl 1],[some (23,1,.ints .u64),some (23,1,.ints .u64)]⟩ [.n,.n,.n,.n,.is,.is] (λS_ c_ VC VD XR Vt b UV=>S_ VC VD XR Vt b UV (λr0=>c_ (vwu r0) [⟨23,1,.ints .u64 b⟩,⟨23,1,.ints .u64 UV⟩])) N_ (Gb N_)
def L76 (N_:Nat):LT:=ao (L75 N_) 305 ⟨[.sl 0,.sl 1],[some (23,1,.ints .u64),some (23,1,.ints .u64)]⟩ [.n,.n,.n,.n,.is,.is] (λS_ c_ VC VD XR Vt b UV=>S_ VC VD XR Vt b UV (λr0 r1=>c_ (vwu r0) [⟨23,1,.ints .u64 r1⟩,⟨23,1,.ints .u64 UV⟩])) N_ (JM N_)
def L77 (N_:Nat):LT:=ad (L76 N_) 306 ⟨[.sl 0,.int .u64],[some (23,1,.ints .u64)]⟩ [.n,.n,.i,.is] (λS_ c_ Vu Ve n b=>S_ Vu Ve n b (λr0 r1=>c_ (.tup [vwr r0,.bool r1]) [⟨23,1,.ints .u64 b⟩])) N_ (Gc N_)
def M78 (N_:Nat):LT:=ad (L77 N_) 262 ⟨[.roi .u64,.int .u64],[]⟩ [.is,.i] (λS_ c_ x n=>S_ x n (c_ (.nil) []) (λr0 r1=>c_ (.sl 0 0 r0) [⟨23,1,.ints .u64 r1⟩])) N_ (Jn N_)
def L78 (N_:Nat):LT:=ad (L77 N_) 289 ⟨[.roi .u64,.roi .u64],[]⟩ [.is,.is] (λS_ c_ x y=>S_ x y (λr0 r1=>c_ (.tup [vwr r0,vwr r1]) [])) N_ (JY N_)
def L79 (N_:Nat):LT:=ad (L78 N_) 287 ⟨[.roi .u64,.roi .u64],[]⟩ [.is,.is] (λS_ c_ x y=>S_ x y (λr0=>c_ (vwr r0) [])) N_ (PO N_)
def L80 (N_:Nat):LT:=ad (L79 N_) 264 ⟨[.ptr 0 0,.bool,.roi .u64,.roi .u64],[some (270,1,.cells [.bool,.nil,.bool,.nil])]⟩ [.b,.is,.is,.b,.b] (λS_ c_ neg a b UV UX=>S_ neg a b UV UX (λr0 r1 r2 r3=>c_ (.ptr 0 0) [⟨270,1,.cells [.bool r0,vwr r1,.bool r2,vwr r3]⟩])) N_ (PU N_)
def L81 (N_:Nat):LT:=ad (L80 N_) 265 ⟨[.ptr 0 0,.bool,.roi .u64,.slw 1],[some (270,1,.cells [.bool,.nil,.bool,.nil]),some (23,1,.ints .u64)]⟩ [.b,.is,.b,.b,.is] (λS_ c_ neg a b UV UX=>S_ neg a b UV UX (λr0 r2=>c_ (.ptr 0 0) [⟨270,1,.cells [.bool r0,vwr a,.bool r2,.slw 1]⟩,⟨23,1,.ints .u64 UX⟩])) N_ (P0 N_)
def L82 (N_:Nat):LT:=ao (L81 N_) 265 ⟨[.ptr 0 0,.bool,.roi .u64,.roi .u64],[some (270,1,.cells [.bool,.nil,.bool,.nil])]⟩ [.b,.is,.is,.b,.b] (λS_ c_ neg a b UV UX=>S_ neg a b UV UX (λr0 r2=>c_ (.ptr 0 0) [⟨270,1,.cells [.bool r0,vwr a,.bool r2,vwr b]⟩])) N_ (PH N_)
def L83 (N_:Nat):LT:=ad (L82 N_) 292 ⟨[.ptr 0 0,.rp [.bool,.roi .u64,.bool,.roi .u64] 0],[some (270,1,.cells [.bool,.nil,.bool,.nil])]⟩ [.b,.is,.b,.is,.b,.b] (λS_ c_ Vu Ve Vs Vx b UV=>S_ Vu Ve Vs Vx b UV (λr0 r1 r2 r3=>c_ (.ptr 0 0) [⟨270,1,.cells [.bool r0,vwr r1,.bool r2,vwr r3]⟩])) N_ (P4 N_)
def L84 (N_:Nat):LT:=ad (L83 N_) 309 ⟨[.roi .u64,.roi .u64],[]⟩ [.is,.is] (λS_ c_ x y=>S_ x y (λr0=>c_ (vwr r0) [])) N_ (Jo N_)
def L85 (N_:Nat):LT:=ad (L84 N_) 318 ⟨[.roi .u64,.roi .u64],[]⟩ [.is,.is] (λS_ c_ x y=>S_ x y (λr0=>c_ (vwr r0) [])) N_ (uM N_)
def L86 (N_:Nat):LT:=ad (L85 N_) 310 ⟨[.ptr 0 0,.ptr 0 0,.bool,.roi .u64],[some (264,1,.cells [.bool,.roi .u64])]⟩ [.b,.is,.b,.is] (λS_ c_ neg y b UV=>S_ neg y b UV (λr0 r1=>c_ (.ptr 0 0) [⟨264,1,.cells [.bool r0,vwr r1]⟩])) N_ (PK N_)
def L87 (N_:Nat):LT:=ad (L86 N_) 291 ⟨[.ptr 0 0,.rp [.bool,.roi .u64,.bool,.roi .u64] 0,.ptr 1 0],[some (270,1,.cells [.bool,.nil,.bool,.nil]),some (270,1,.cells [.bool,.roi .u64,.bool,.roi .u64])]⟩ [.b,.is,.b,.is,.b,.b,.b,.is,.b,.is] (λS_ c_ Vu Ve Vs Vx b UV UX U9 Vh VO=>S_ Vu Ve Vs Vx b UV UX U9 Vh VO (λr0 r1 r2 r3=>c_ (.ptr 0 0) [⟨270,1,.cells [.bool r0,vwr r1,.bool r2,vwr r3]⟩,⟨270,1,.cells [.bool UX,vwr U9,.bool Vh,vwr VO]⟩])) N_ (PI N_)
def L88 (N_:Nat):LT:=ad (L87 N_) 267 ⟨[.ptr 0 0,.rp [.bool,.roi .u64,.bool,.roi .u64] 0,.rp [.bool,.roi .u64,.bool,.roi .u64] 0],[some (270,1,.cells [.bool,.nil,.bool,.nil])]⟩ [.b,.is,.b,.is,.b,.is,.b,.is,.b,.b] (λS_ c_ Vu Ve Vs Vx V8 Vl VG VZ b UV=>S_ Vu Ve Vs Vx V8 Vl VG VZ b UV (λr0 r1 r2 r3=>c_ (.ptr 0 0) [⟨270,1,.cells [.bool r0,vwr r1,.bool r2,vwr r3]⟩])) N_ (Jv N_)
def L89 (N_:Nat):LT:=ad (L88 N_) 295 ⟨[.ptr 0 0,.bool,.roi .u64,.roi .u64,.roi .u64,.roi .u64],[some (270,1,.cells [.bool,.nil,.bool,.nil])]⟩ [.b,.is,.is,.is,.is,.b,.b] (λS_ c_ neg a b c d UV UX=>S_ neg a b c d UV UX (λr0 r1 r2 r3=>c_ (.ptr 0 0) [⟨270,1,.cells [.bool r0,vwr r1,.bool r2,vwr r3]⟩])) N_ (PB N_)
def L90 (N_:Nat):LT:=ad (L89 N_) 273 ⟨[.ptr 0 0,.rp [.bool,.roi .u64,.bool,.roi .u64] 0,.rp [.bool,.roi .u64,.bool,.roi .u64] 0],[some (270,1,.cells [.bool,.nil,.bool,.nil])]⟩ [.b,.is,.b,.is,.b,.is,.b,.is,.b,.b] (λS_ c_ Vu Ve Vs Vx V8 Vl VG VZ b UV=>S_ Vu Ve Vs Vx V8 Vl VG VZ b UV (λr0 r1 r2 r3=>c_ (.ptr 0 0) [⟨270,1,.cells [.bool r0,vwr r1,.bool r2,vwr r3]⟩])) N_ (Ju N_)
def L91 (N_:Nat):LT:=ad (L90 N_) 294 ⟨[.ptr 0 0,.rp [.bool,.roi .u64,.bool,.roi .u64] 0,.rp [.bool,.roi .u64,.bool,.roi .u64] 0],[some (270,1,.cells [.bool,.nil,.bool,.nil])]⟩ [.b,.is,.b,.is,.b,.is,.b,.is,.b,.b] (λS_ c_ Vu Ve Vs Vx V8 Vl VG VZ b UV=>S_ Vu Ve Vs Vx V8 Vl VG VZ b UV (λr0 r1 r2 r3=>c_ (.ptr 0 0) [⟨270,1,.cells [.bool r0,vwr r1,.bool r2,vwr r3]⟩])) N_ (Jt N_)
def L92 (N_:Nat):LT:=ao (L91 N_) 291 ⟨[.ptr 0 0,.rp [.bool,.roi .u64,.bool,.roi .u64] 0,.rp [.bool,.roi .u64,.bool,.roi .u64] 0],[some (270,1,.cells [.bool,.nil,.bool,.nil])]⟩ [.b,.is,.b,.is,.b,.is,.b,.is,.b,.b] (λS_ c_ Vu Ve Vs Vx V8 Vl VG VZ b UV=>S_ Vu Ve Vs Vx V8 Vl VG VZ b UV (λr0 r1 r2 r3=>c_ (.ptr 0 0) [⟨270,1,.cells [.bool r0,vwr r1,.bool r2,vwr r3]⟩])) N_ (MO N_)
def L93 (N_:Nat):LT:=ad (L92 N_) 168 ⟨[.flt],[]⟩ [.f] (λS_ c_ x=>S_ x (λr0 r1 r2=>c_ (.tup [.bool r0,vwi r1,vwu r2]) [])) N_ (pU N_)
def L94 (N_:Nat):LT:=ad (L93 N_) 138 ⟨[.flt,.flt],[]⟩ [.f,.f] (λS_ c_ a b=>S_ a b (λr0=>c_ (.bool r0) [])) N_ (sE N_)
def L95 (N_:Nat):LT:=ad (L94 N_) 112 ⟨[.flt],[]⟩ [.f] (λS_ c_ x=>S_ x (λr0 r1 r2 r3=>c_ (.tup [.agg [.bool r0,vwu r1,vwi r2],vwi r3]) [])) N_ (pT N_)
def L96 (N_:Nat):LT:=ad (L95 N_) 113 ⟨[.ptr 0 0,.int .u64],[some (158,1,.cells [.bool,.nil])]⟩ [.i,.b] (λS_ c_ n b=>S_ n b (λr0 r1=>c_ (.ptr 0 0) [⟨158,1,.cells [.bool r0,vws r1]⟩])) N_ (PT N_)
def L97 (N_:Nat):LT:=ad (L96 N_) 114 ⟨[.ptr 0 0,.ptr 0 0],[some (158,1,.cells [.bool,.roi .u32])]⟩ [.b,.is] (λS_ c_ b UV=>S_ b UV (λr0 r1=>c_ (.ptr 0 0) [⟨158,1,.cells [.bool r0,vws r1]⟩])) N_ (JQ N_)
def L98 (N_:Nat):LT:=ad (L97 N_) 66 ⟨[.flt],[]⟩ [.f] (λS_ c_ x=>S_ x (λr0 r1 r2=>c_ (.agg [.ptr 0 0,vwi r0]) [⟨158,1,.cells [.bool r1,vws r2]⟩])) N_ (xF N_)
def L99 (N_:Nat):LT:=ad (L98 N_) 174 ⟨[.ptr 0 0,.ptr 1 0,.int .u64],[some (158,1,.cells [.bool,.nil]),some (158,1,.cells [.bool,.roi .u32])]⟩ [.i,.b,.b,.is] (λS_ c_ n b UV UX=>S_ n b UV UX (λr0 r1=>c_ (.ptr 0 0) [⟨158,1,.cells [.bool r0,vws r1]⟩,⟨158,1,.cells [.bool UV,vws UX]⟩])) N_ (Jz N_)
def Tz (N_:Nat):LT:=ad (L99 N_) 210 ⟨[.roi .u32,.int .u64],[]⟩ [.is,.i] (λS_ c_ m n=>S_ m n (c_ (.nil) []) (λr0 r1=>c_ (.sl 0 0 r0) [⟨238,1,.ints .u32 r1⟩])) N_ (Jp N_)
def Qb (N_:Nat):LT:=ad (L99 N_) 257 ⟨[.roi .u32,.roi .u32],[]⟩ [.is,.is] (λS_ c_ a b=>S_ a b (λr0 r1=>c_ (.tup [vws r0,vws r1]) [])) N_ (Ci N_)
def Qc (N_:Nat):LT:=ad (Qb N_) 256 ⟨[.roi .u32,.roi .u32],[]⟩ [.is,.is] (λS_ c_ a b=>S_ a b (λr0=>c_ (vws r0) [])) N_ (JR N_)
def Qd (N_:Nat):LT:=ad (Qc N_) 229 ⟨[.ptr 0 0,.bool,.roi .u32,.roi .u32],[some (235,1,.cells [.bool,.nil,.bool,.nil])]⟩ [.b,.is,.is,.b,.b] (λS_ c_ neg a b UV UX=>S_ neg a b UV UX (λr0 r1 r2 r3=>c_ (.ptr 0 0) [⟨235,1,.cells [.bool r0,vws r1,.bool r2,vws r3]⟩])) N_ (PA N_)
def Qe (N_:Nat):LT:=ad (Qd N_) 176 ⟨[.ptr 0 0,.int .i64],[some (158,1,.cells [.bool,.nil])]⟩ [.i,.b] (λS_ c_ n b=>S_ n b (λr0 r1=>c_ (.ptr 0 0) [⟨158,1,.cells [.bool r0,vws r1]⟩])) N_ (JE N_)
def Qf (N_:Nat):LT:=ad1 2 (Qe N_) 230 ⟨[.rp [.bool,.roi .u32,.bool,.roi .u32] 0],[]⟩ [.b,.is,.b,.is] (λS_ c_ Yw Xl WY WL=>S_ Yw Xl WY WL (λr0=>c_ (vws r0) (.any))) N_ (JD N_)
def Qg (N_:Nat):LT:=ad (Qf N_) 226 ⟨[.ptr 0 0,.rp [.bool,.roi .u32,.bool,.roi .u32] 0],[some (235,1,.cells [.bool,.roi .u32,.bool,.roi .u32])]⟩ [.b,.is,.b,.is,.b,.is,.b,.is] (λS_ c_ Vu Ve Vs Vx b UV UX U9=>S_ Vu Ve Vs Vx b UV UX U9 (λr0 r1 r2 r3=>c_ (.ptr 0 0) [⟨235,1,.cells [.bool r0,vws r1,.bool r2,vws r3]⟩])) N_ (P7 N_)
def Qh (N_:Nat):LT:=ad (Qg N_) 200 ⟨[.agg [.int .i64,.int .i64,.rl RT2]],[]⟩ [.i,.i,.r RT2] (λS_ c_ Vk U5 Vd=>S_ Vk U5 Vd (λr2=>c_ (.agg [vwi Vk,vwi U5,.slw 0]) [⟨231,1,.own 235 RT1 r2 []⟩])) N_ (P6 N_)
def Qi (N_:Nat):LT:=ao1 2 (Qh N_) 230 ⟨[.ptr 0 0],[some (235,1,.cells [.bool,.roi .u32,.bool,.roi .u32])]⟩ [.b,.is,.b,.is] (λS_ c_ b UV UX U9=>S_ b UV UX U9 (λr0=>c_ (vws r0) (.any))) N_ (GQ5 N_)
def Qj (N_:Nat):LT:=ad (Qi N_) 204 ⟨[.ptr 0 0,.ptr 1 0,.ptr 2 0],[some (235,1,.cells [.bool,.nil,.bool,.nil]),some (235,1,.cells [.bool,.roi .u32,.bool,.roi .u32]),some (235,1,.cells [.bool,.roi .u32,.bool,.roi .u32])]⟩ [.b,.b,.b,.is,.b,.is,.b,.is,.b,.is] (λS_ c_ b UV UX U9 Vh VO Wf WR Yv XS=>S_ b UV UX U9 Vh VO Wf WR Yv XS (λr0 r1 r2 r3=>c_ (.ptr 0 0) [⟨235,1,.cells [.bool r0,vws r1,.bool r2,vws r3]⟩,⟨235,1,.cells [.bool UX,vws U9,.bool Vh,vws VO]⟩,⟨235,1,.cells [.bool Wf,vws WR,.bool Yv,vws XS]⟩])) N_ (Py N_)
def Qk (N_:Nat):LT:=ad (Qj N_) 228 ⟨[.ptr 0 0,.ptr 1 0,.ptr 2 0],[some (235,1,.cells [.bool,.nil,.bool,.nil]),some (235,1,.cells [.bool,.roi .u32,.bool,.roi .u32]),some (235,1,.cells [.bool,.roi .u32,.bool,.roi .u32])]⟩ [.b,.b,.b,.is,.b,.is,.b,.is,.b,.is] (λS_ c_ b UV UX U9 Vh VO Wf WR Yv XS=>S_ b UV UX U9 Vh VO Wf WR Yv XS (λr0 r1 r2 r3=>c_ (.ptr 0 0) [⟨235,1,.cells [.bool r0,vws r1,.bool r2,vws r3]⟩,⟨235,1,.cells [.bool UX,vws U9,.bool Vh,vws VO]⟩,⟨235,1,.cells [.bool Wf,vws WR,.bool Yv,vws XS]⟩])) N_ (Px N_)
def Ql (N_:Nat):LT:=ad (Qk N_) 249 ⟨[.ptr 0 0,.ptr 1 0],[some (235,1,.cells [.bool,.roi .u32,.bool,.roi .u32]),some (235,1,.cells [.bool,.roi .u32,.bool,.roi .u32])]⟩ [.b,.is,.b,.is,.b,.is,.b,.is] (λS_ c_ b UV UX U9 Vh VO Wf WR=>S_ b UV UX U9 Vh VO Wf WR (λr9 r11=>c_ (.tup [.ptr 2 0,.ptr 3 0]) [⟨235,1,.cells [.bool b,vws UV,.bool UX,vws U9]⟩,⟨235,1,.cells [.bool Vh,vws VO,.bool Wf,vws WR]⟩,⟨158,1,.cells [.bool b,vws r9]⟩,⟨158,1,.cells [.bool Vh,vws r11]⟩])) N_ (P1 N_)
def Qm (N_:Nat):LT:=ad (Ql N_) 173 ⟨[.ptr 0 0,.ptr 1 0,.ptr 2 0,.bool],[some (158,1,.cells [.bool,.nil]),some (158,1,.cells [.bool,.roi .u32]),some (158,1,.cells [.bool,.roi .u32])]⟩ [.b,.b,.b,.is,.b,.is] (λS_ c_ turn b UV UX U9 Vh=>S_ turn b UV UX U9 Vh (λr0 r1=>c_ (.ptr 0 0) [⟨158,1,.cells [.bool r0,vws r1]⟩,⟨158,1,.cells [.bool UV,vws UX]⟩,⟨158,1,.cells [.bool U9,vws Vh]⟩])) N_ (P_ N_)
def Qn (N_:Nat):LT:=ao (Qm N_) 229 ⟨[.ptr 0 0,.bool,.roi .u32,.roi .u32],[some (235,1,.cells [.bool,.roi .u32,.bool,.roi .u32])]⟩ [.b,.is,.is,.b,.is,.b,.is] (λS_ c_ neg a b UV UX U9 Vh=>S_ neg a b UV UX U9 Vh (λr0 r1 r2 r3=>c_ (.ptr 0 0) [⟨235,1,.cells [.bool r0,vws r1,.bool r2,vws r3]⟩])) N_ (PV N_)
def Qo (N_:Nat):LT:=ad (Qn N_) 152 ⟨[.agg [.int .i64,.int .i64,.rof]],[]⟩ [.i,.i,.fs] (λS_ c_ Vk U5 Vd=>S_ Vk U5 Vd (λr2=>c_ (.agg [vwi Vk,vwi U5,.slw 0]) [⟨36,1,.flts r2⟩])) N_ (Gd N_)
def Qp (N_:Nat):LT:=ad (Qo N_) 88 ⟨[.agg [.int .i64,.int .i64,.rof]],[]⟩ [.i,.i,.fs] (λS_ c_ Vk U5 Vd=>S_ Vk U5 Vd (λr2=>c_ (.agg [vwi U5,vwi Vk,.slw 0]) [⟨36,1,.flts r2⟩])) N_ (sG N_)
def Qq (N_:Nat):LT:=upM Pg jp N_ fmd (Qp N_) [251,275,120,274,117,52,108,270,271,247,243,240,239,238,179]
def Qr (N_:Nat):LT:=ad (Qq N_) 211 ⟨[.int .u64,.agg [.int .u64,.int .i64,.int .i64]],[]⟩ [.i,.i,.i,.i] (λS_ c_ b VR VY V7=>S_ b VR VY V7 (λr0 r1 r2=>c_ (.tup [.bool r0,vwi r1,vwu r2]) [])) N_ (PR N_)
def J6 (N_:Nat):LT:=ad (Qr N_) 177 ⟨[.int .u64,.agg [.int .u64,.int .i64,.int .i64]],[]⟩ [.i,.i,.i,.i] (λS_ c_ b VR VY V7=>S_ b VR VY V7 (λr0=>c_ (vwi r0) [])) N_ (PQ N_)
def R8:FnSh:=⟨[.flt],[]⟩
def Mw (YL:Ka):SPT:=λa_ c_=>match a_ with
 | [.fl x]=>YL x (λr0=>c_ (vwi r0) [])
 | _=>false
abbrev Sl (YL:Ka):Fs:=eg R8 (Mw YL)
def Qs (N_:Nat):LT:=(122,(Sl (Mn N_)))::J6 N_
def Ph:FnSh:=⟨[.fb],[]⟩
def R_ (Zz:SI):SPT:=λa_ c_=>match a_ with
 | [.nat x]=>Zz x (λr0=>c_ (vwi r0) [])
 | _=>false
abbrev FQ6 (Zz:SI):Fs:=eg Ph (R_ Zz)
def Qt (N_:Nat):LT:=ad (Qs N_) 75 ⟨[.rof],[]⟩ [.fs] (λS_ c_ l=>S_ l (λr0=>c_ (.bool r0) [])) N_ (JJ N_)
def J7 (N_:Nat):LT:=ad (Qt N_) 74 ⟨[.agg [.int .i64,.int .i64,.rof]],[]⟩ [.i,.i,.fs] (λS_ c_ Vk U5 Vd=>S_ Vk U5 Vd (λr0=>c_ (vwi r0) [])) N_ (MP N_)
def Ow:FnSh:=⟨[.flt,.flt],[]⟩
def F5 (XV:EE):SPT:=λa_ c_=>match a_ with
 | [.fl a,.fl b]=>XV a b (λr0=>c_ (.bool r0) [])
 | _=>false
abbrev OB (XV:EE):Fs:=eg Ow (F5 XV)
def Qu (N_:Nat):LT:=(123,(OB (DT N_)))::J7 N_
def Pi:FnSh:=⟨[.fb,.fb],[]⟩
def Sa (ZA:SJ):SPT:=λa_ c_=>match a_ with
 | [.nat a,.nat b]=>ZA a b (λr0=>c_ (.bool r0) [])
 | _=>false
abbrev FQ7 (ZA:SJ):Fs:=eg Pi (Sa ZA)
def Qv (N_:Nat):LT:=ad (Qu N_) 76 ⟨[.agg [.int .i64,.int .i64,.rof]],[]⟩ [.i,.i,.fs] (λS_ c_ Vk U5 Vd=>S_ Vk U5 Vd (λr0=>c_ (.bool r0) [])) N_ (P5 N_)
def Qw (N_:Nat):LT:=ad (Qv N_) 258 ⟨[.int .u64,.agg [.int .u64,.int .i64,.int .i64]],[]⟩ [.i,.i,.i,.i] (λS_ c_ b VR VY V7=>S_ b VR VY V7 (λr0 r1 r2 r3=>c_ (.tup [.agg [.bool r0,vwu r1,vwi r2],vwi r3]) [])) N_ (P3 N_)
def Qx (N_:Nat):LT:=ad (Qw N_) 216 ⟨[.agg [.int .i64,.int .i64,.slw 0]],[some (249,1,.recs RT0)]⟩ [.i,.i,.r RT0] (λS_ c_ WV VP b=>S_ WV VP b (c_ (.tup []) [⟨249,1,.recs RT0 b⟩])) N_ (cK N_)
def Qy (N_:Nat):LT:=ad (Qx N_) 272 ⟨[.int .i64,.int .i64],[]⟩ [.i,.i] (λS_ c_ a b=>S_ a b (λr0 r1 r2 r3=>c_ (.ptr 0 0) [⟨270,1,.cells [.bool r0,vwr r1,.bool r2,vwr r3]⟩])) N_ (nZ N_)
def Qz (N_:Nat):LT:=ad (Qy N_) 245 ⟨[.agg [.int .i64,.int .i64,.slw 0],.int .i64,.int .i64,.agg [.rp [.bool,.roi .u64,.bool,.roi .u64] 0]],[some (249,1,.recs RT0)]⟩ [.i,.i,.i,.i,.b,.is,.b,.is,.r RT0] (λS_ c_ WV VP i k_ Vu Ve Vs Vx b=>S_ WV VP i k_ Vu Ve Vs Vx b (λr0=>c_ (.tup []) [⟨249,1,.recs RT0 r0⟩])) N_ (eP N_)
def QA (N_:Nat):LT:=ad (Qz N_) 45 ⟨[.int .i64,.rof,.flt,.flt],[]⟩ [.i,.fs,.f,.f] (λS_ c_ n h r z=>S_ n h r z (λr0=>c_ (vwi r0) [])) N_ (pO N_)
def QB (N_:Nat):LT:=ad (QA N_) 86 ⟨[.rof],[]⟩ [.fs] (λS_ c_ l=>S_ l (λr0=>c_ (.bool r0) [])) N_ (PW N_)
def QC (N_:Nat):LT:=ad (QB N_) 137 ⟨[.agg [.int .i64,.int .i64,.rof]],[]⟩ [.i,.i,.fs] (λS_ c_ Vk U5 Vd=>S_ Vk U5 Vd (λr0=>c_ (vwi r0) [])) N_ (sF N_)
def QD (N_:Nat):LT:=ad (QC N_) 82 ⟨[.agg [.int .i64,.int .i64,.rof]],[]⟩ [.i,.i,.fs] (λS_ c_ Vk U5 Vd=>S_ Vk U5 Vd (λr0=>c_ (vwi r0) [])) N_ (JG N_)
def QE (N_:Nat):LT:=ad (QD N_) 248 ⟨[.agg [.ptr 0 0,.int .i64]],[some (158,1,.cells [.bool,.roi .u32])]⟩ [.i,.b,.is] (λS_ c_ x b UV=>S_ x b UV (λr2 r3 r4 r5=>c_ (.ptr 1 0) [⟨158,1,.cells [.bool b,vws UV]⟩,⟨235,1,.cells [.bool r2,vws r3,.bool r4,vws r5]⟩])) N_ (P2 N_)
def QF (N_:Nat):LT:=ad (QE N_) 227 ⟨[.ptr 0 0,.ptr 0 0,.ptr 1 0],[some (235,1,.cells [.bool,.roi .u32,.bool,.roi .u32]),some (235,1,.cells [.bool,.roi .u32,.bool,.roi .u32])]⟩ [.b,.is,.b,.is,.b,.is,.b,.is] (λS_ c_ b UV UX U9 Vh VO Wf WR=>S_ b UV UX U9 Vh VO Wf WR (λr0 r1 r2 r3=>c_ (.ptr 0 0) [⟨235,1,.cells [.bool r0,vws r1,.bool r2,vws r3]⟩,⟨235,1,.cells [.bool Vh,vws VO,.bool Wf,vws WR]⟩])) N_ (PD N_)
def QG (N_:Nat):LT:=ad (QF N_) 203 ⟨[.agg [.int .i64,.int .i64,.slw 0],.int .i64,.int .i64,.ptr 1 0],[some (231,1,.own 235 RT1),some (235,1,.cells [.bool,.roi .u32,.bool,.roi .u32])]⟩ [.i,.i,.i,.i,.r RT1,.b,.is,.b,.is] (λS_ c_ Vk U5 i k_ b UV UX U9 Vh=>S_ Vk U5 i k_ b UV UX U9 Vh (λr0=>c_ (.tup []) [⟨231,1,.own 235 RT1 r0 []⟩,⟨235,1,.cells [.bool UV,vws UX,.bool U9,vws Vh]⟩])) N_ (PJ N_)
def QH (N_:Nat):LT:=ad (QG N_) 154 ⟨[.agg [.int .i64,.int .i64,.rl RT2]],[]⟩ [.i,.i,.r RT2] (λS_ c_ Vk U5 Vd=>S_ Vk U5 Vd (λr0=>c_ (vwi r0) [])) N_ (JK N_)
def QI (N_:Nat):LT:=ad (QH N_) 51 ⟨[.int .i64,.rof,.flt],[]⟩ [.i,.fs,.f] (λS_ c_ n h r=>S_ n h r (λr0=>c_ (vwi r0) [])) N_ (uQ N_)
def QJ (N_:Nat):LT:=ad (QI N_) 55 ⟨[.ptr 0 0,.flt],[some (100,1,.cells [.bool])]⟩ [.f,.b] (λS_ c_ x b=>S_ x b (λr1=>c_ (.flt x) [⟨100,1,.cells [.bool r1]⟩])) N_ (PG N_)
def QK (N_:Nat):LT:=ad (QJ N_) 87 ⟨[.agg [.int .i64,.int .i64,.rof]],[]⟩ [.i,.i,.fs] (λS_ c_ Vk U5 Vd=>S_ Vk U5 Vd (λr0=>c_ (vwi r0) [])) N_ (JP N_)
def QL (N_:Nat):LT:=ad (QK N_) 37 ⟨[.agg [.int .i64,.int .i64,.rof,.rof]],[]⟩ [.i,.i,.fs,.fs] (λS_ c_ Vq U_ Vz VX=>S_ Vq U_ Vz VX (λr0=>c_ (vwi r0) [])) N_ (kh N_)
def QM (N_:Nat):LT:=ad (QL N_) 16 ⟨[.agg [.int .i64,.int .i64,.slw 0,.slw 1],.slw 2,.flt,.flt],[some (36,1,.flts),some (36,1,.flts),some (36,1,.flts)]⟩ [.i,.i,.f,.f,.fs,.fs,.fs] (λS_ c_ Vq U_ r z b UV UX=>S_ Vq U_ r z b UV UX (λr0 r1 r2 r3 r4 r5=>c_ (.tup [.agg [vwi r0,vwi r1,.rof r2,.rof r3],.flt r4,vwi r5]) [⟨36,1,.flts b⟩,⟨36,1,.flts UV⟩,⟨36,1,.flts UX⟩])) N_ (eK N_)
def QN (N_:Nat):LT:=upM Pg jp N_ fmd (QM N_) [218,85,246,234]
def QO (N_:Nat):LT:=ad (QN N_) 215 ⟨[.flt],[]⟩ [.f] (λS_ c_ x=>S_ x (λr0 r1 r2 r3=>c_ (.agg [.rp [.bool r0,vwr r1,.bool r2,vwr r3] 0]) [])) N_ (i9 N_)
def QP (N_:Nat):LT:=ad (QO N_) 182 ⟨[.agg [.int .i64,.int .i64,.rof]],[]⟩ [.i,.i,.fs] (λS_ c_ Vk U5 Vd=>S_ Vk U5 Vd (λr2=>c_ (.agg [vwi Vk,vwi U5,.slw 0]) [⟨249,1,.recs RT0 r2⟩])) N_ (iB N_)
def QQ (N_:Nat):LT:=ad (QP N_) 217 ⟨[.agg [.int .i64,.int .i64,.slw 0]],[some (249,1,.recs RT0)]⟩ [.i,.i,.r RT0] (λS_ c_ WV VP b=>S_ WV VP b (λr0 r1=>c_ (vwi r0) [⟨249,1,.recs RT0 r1⟩])) N_ (cY N_)
def QR (N_:Nat):LT:=ad (QQ N_) 111 ⟨[.agg [.rof,.int .i64,.int .i64,.rof]],[]⟩ [.fs,.i,.i,.fs] (λS_ c_ YF Wn Xu WS=>S_ YF Wn Xu WS (λr0=>c_ (vwi r0) [])) N_ (pY N_)
def QS (N_:Nat):LT:=ad (QR N_) 189 ⟨[.agg [.int .i64,.int .i64,.rof]],[]⟩ [.i,.i,.fs] (λS_ c_ Vk U5 Vd=>S_ Vk U5 Vd (λr2=>c_ (.agg [vwi Vk,vwi U5,.slw 0]) [⟨231,1,.own 235 RT1 r2 []⟩])) N_ (pV N_)
def QT (N_:Nat):LT:=ad (QS N_) 29 ⟨[.agg [.int .i64,.int .i64,.rof,.rof]],[]⟩ [.i,.i,.fs,.fs] (λS_ c_ Vq U_ Vz VX=>S_ Vq U_ Vz VX (λr0=>c_ (vwi r0) [])) N_ (JH N_)
def QU (N_:Nat):LT:=ad (QT N_) 15 ⟨[.agg [.int .i64,.int .i64,.slw 0,.slw 1],.slw 2,.flt,.flt],[some (36,1,.flts),some (36,1,.flts),some (36,1,.flts)]⟩ [.i,.i,.f,.f,.fs,.fs,.fs] (λS_ c_ Vq U_ r z b UV UX=>S_ Vq U_ r z b UV UX (λr0 r1 r2 r3 r4 r5=>c_ (.tup [.agg [vwi r0,vwi r1,.rof r2,.rof r3],.flt r4,vwi r5]) [⟨36,1,.flts b⟩,⟨36,1,.flts UV⟩,⟨36,1,.flts UX⟩])) N_ (PC N_)
def QV (N_:Nat):LT:=upM Pg jp N_ fmd (QU N_) [95,153,183]
def QW (N_:Nat):LT:=ad (QV N_) 125 ⟨[.agg [.int .i64,.int .i64,.rof]],[]⟩ [.i,.i,.fs] (λS_ c_ Vk U5 Vd=>S_ Vk U5 Vd (λr0 r1=>c_ (.tup [vwi r0,vwi r1]) [])) N_ (i8 N_)
def QX (N_:Nat):LT:=ad (QW N_) 65 ⟨[.agg [.rof,.int .i64,.int .i64,.rof]],[]⟩ [.fs,.i,.i,.fs] (λS_ c_ YF Wn Xu WS=>S_ YF Wn Xu WS (λr0=>c_ (vwi r0) [])) N_ (pX N_)
def QY (N_:Nat):LT:=ad (QX N_) 109 ⟨[.slw 0,.agg [.int .i64,.int .i64,.slw 1],.ptr 2 0],[some (36,1,.flts),some (36,1,.flts),some (100,1,.cells [.bool])]⟩ [.i,.i,.fs,.fs,.b] (λS_ c_ Zg Xs b UV UX=>S_ Zg Xs b UV UX (λr0 r1 r2=>c_ (.tup [.agg [.nil,vwi r0,vwi r1,.nil],vwi r2]) [⟨36,1,.flts b⟩,⟨36,1,.flts UV⟩,⟨100,1,.cells [.bool UX]⟩]) (λr2 r6=>c_ (.tup [.agg [.slw 0,vwi Zg,vwi Xs,.slw 3],vwi r2]) [⟨36,1,.flts b⟩,⟨36,1,.flts UV⟩,⟨100,1,.cells [.bool UX]⟩,⟨36,1,.flts r6⟩])) N_ (MQ N_)
def QZ (N_:Nat):LT:=ad (QY N_) 57 ⟨[.slw 0,.agg [.int .i64,.int .i64,.slw 1],.ptr 2 0],[some (36,1,.flts),some (36,1,.flts),some (100,1,.cells [.bool])]⟩ [.i,.i,.fs,.fs,.b] (λS_ c_ V8 Vl b UV UX=>S_ V8 Vl b UV UX (λr0 r1 r2=>c_ (.tup [.agg [vwi r0,vwi r1,.nil,.nil],vwi r2]) [⟨36,1,.flts b⟩,⟨36,1,.flts UV⟩,⟨100,1,.cells [.bool UX]⟩]) (λr2 r6=>c_ (.tup [.agg [vwi V8,vwi Vl,.slw 3,.slw 0],vwi r2]) [⟨36,1,.flts b⟩,⟨36,1,.flts UV⟩,⟨100,1,.cells [.bool UX]⟩,⟨36,1,.flts r6⟩])) N_ (Jr N_)
def Q0 (N_:Nat):LT:=upM Pg jp N_ fmd (QZ N_) [23,77]
def Q1 (N_:Nat):LT:=ad (Q0 N_) 25 ⟨[.agg [.int .i64,.int .i64,.rof,.rof]],[]⟩ [.i,.i,.fs,.fs] (λS_ c_ Vq U_ Vz VX=>S_ Vq U_ Vz VX (λr0=>c_ (vwi r0) [])) N_ (ob N_)
def Q2 (N_:Nat):LT:=ad (Q1 N_) 92 ⟨[.ptr 0 0,.slw 1,.agg [.int .i64,.int .i64,.slw 2]],[some (107,1,.cells [.bool]),some (36,1,.flts),some (36,1,.flts)]⟩ [.i,.i,.b,.fs,.fs] (λS_ c_ V8 Vl b UV UX=>S_ V8 Vl b UV UX (λr0 r1 r2=>c_ (.tup [.agg [vwi r0,vwi r1,.nil,.nil],vwi r2]) [⟨107,1,.cells [.bool b]⟩,⟨36,1,.flts UV⟩,⟨36,1,.flts UX⟩]) (λr2=>c_ (.tup [.agg [vwi V8,vwi Vl,.slw 2,.slw 1],vwi r2]) [⟨107,1,.cells [.bool b]⟩,⟨36,1,.flts UV⟩,⟨36,1,.flts UX⟩])) N_ (gO N_)
def Q3 (N_:Nat):LT:=ad (Q2 N_) 50 ⟨[.agg [.int .i64,.int .i64,.slw 0,.slw 1],.fn 46 [.ptr 2 0,.ptr 3 0],.fn 49 [.ptr 2 0,.ptr 4 0,.ptr 3 0]],[some (36,1,.flts),some (36,1,.flts),some (26,1,.cells [.slw 5]),some (36,1,.cells [.flt]),some (36,1,.cells [.flt]),some (36,1,.flts)]⟩ [.i,.i,.fs,.fs,.f,.f,.fs] (λS_ c_ Vq U_ b UV UX U9 Vh=>S_ Vq U_ b UV UX U9 Vh (λr0 r1 r2=>c_ (.tup [.agg [vwi r0,vwi r1,.nil,.nil],vwi r2]) [⟨36,1,.flts b⟩,⟨36,1,.flts UV⟩,⟨26,1,.cells [.slw 5]⟩,⟨36,1,.cells [.flt UX]⟩,⟨36,1,.cells [.flt U9]⟩,⟨36,1,.flts Vh⟩]) (λr0 r1 r2 r8 r9=>c_ (.tup [.agg [vwi r0,vwi r1,.slw 6,.slw 7],vwi r2]) [⟨36,1,.flts b⟩,⟨36,1,.flts UV⟩,⟨26,1,.cells [.slw 5]⟩,⟨36,1,.cells [.flt UX]⟩,⟨36,1,.cells [.flt U9]⟩,⟨36,1,.flts Vh⟩,⟨36,1,.flts r8⟩,⟨36,1,.flts r9⟩])) N_ (gd N_)
def Q4 (N_:Nat):LT:=ad (Q3 N_) 10 ⟨[.agg [.int .i64,.int .i64,.slw 0,.slw 1],.slw 2,.flt,.flt],[some (36,1,.flts),some (36,1,.flts),some (36,1,.flts)]⟩ [.i,.i,.f,.f,.fs,.fs,.fs] (λS_ c_ Vq U_ r z b UV UX=>S_ Vq U_ r z b UV UX (λr0 r1 r2 r3 r4=>c_ (.tup [.agg [vwi r0,vwi r1,.rof r2,.rof r3],vwi r4]) [⟨36,1,.flts b⟩,⟨36,1,.flts UV⟩,⟨36,1,.flts UX⟩])) N_ (iA N_)
def Q5 (N_:Nat):LT:=ad (Q4 N_) 12 ⟨[.agg [.int .i64,.int .i64,.slw 0,.slw 1],.slw 2,.flt,.flt],[some (36,1,.flts),some (36,1,.flts),some (36,1,.flts)]⟩ [.i,.i,.f,.f,.fs,.fs,.fs] (λS_ c_ Vq U_ r z b UV UX=>S_ Vq U_ r z b UV UX (λr0 r1 r2 r3 r4=>c_ (.tup [.agg [vwi r0,vwi r1,.rof r2,.rof r3],vwi r4]) [⟨36,1,.flts b⟩,⟨36,1,.flts UV⟩,⟨36,1,.flts UX⟩])) N_ (PS N_)
def Q6 (N_:Nat):LT:=ao (Q5 N_) 50 ⟨[.agg [.int .i64,.int .i64,.slw 0,.slw 1],.fn 63 [.ptr 2 0,.ptr 3 0],.fn 64 [.ptr 2 0]],[some (36,1,.flts),some (36,1,.flts),some (30,1,.cells [.int .i64,.int .i64,.slw 4,.slw 5]),some (3,1,.cells [.int .i64]),some (36,1,.flts),some (36,1,.flts)]⟩ [.i,.i,.fs,.fs,.i,.i,.i,.fs,.fs] (λS_ c_ Vq U_ b UV UX U9 Vh VO Wf=>S_ Vq U_ b UV UX U9 Vh VO Wf (λr0 r1 r2=>c_ (.tup [.agg [vwi r0,vwi r1,.nil,.nil],vwi r2]) [⟨36,1,.flts b⟩,⟨36,1,.flts UV⟩,⟨30,1,.cells [vwi UX,vwi U9,.slw 4,.slw 5]⟩,⟨3,1,.cells [vwi Vh]⟩,⟨36,1,.flts VO⟩,⟨36,1,.flts Wf⟩]) (λr0 r1 r2 r10 r11=>c_ (.tup [.agg [vwi r0,vwi r1,.slw 6,.slw 7],vwi r2]) [⟨36,1,.flts b⟩,⟨36,1,.flts UV⟩,⟨30,1,.cells [vwi UX,vwi U9,.slw 4,.slw 5]⟩,⟨3,1,.cells [vwi Vh]⟩,⟨36,1,.flts VO⟩,⟨36,1,.flts Wf⟩,⟨36,1,.flts r10⟩,⟨36,1,.flts r11⟩])) N_ (eO N_)
def Q7 (N_:Nat):LT:=ad (Q6 N_) 20 ⟨[.agg [.int .i64,.int .i64,.slw 0,.slw 1],.agg [.int .i64,.int .i64,.slw 2,.slw 3]],[some (36,1,.flts),some (36,1,.flts),some (36,1,.flts),some (36,1,.flts)]⟩ [.i,.i,.i,.i,.fs,.fs,.fs,.fs] (λS_ c_ Vq U_ Xa UV b UX U9 Vh=>S_ Vq U_ Xa UV b UX U9 Vh (λr0 r1 r2 r3 r4=>c_ (.tup [.agg [vwi r0,vwi r1,.rof r2,.rof r3],vwi r4]) [⟨36,1,.flts b⟩,⟨36,1,.flts UX⟩,⟨36,1,.flts U9⟩,⟨36,1,.flts Vh⟩])) N_ (iz N_)
def Q8 (N_:Nat):LT:=ad (Q7 N_) 21 ⟨[.agg [.int .i64,.int .i64,.slw 0,.slw 1],.agg [.int .i64,.int .i64,.slw 2,.slw 3]],[some (36,1,.flts),some (36,1,.flts),some (36,1,.flts),some (36,1,.flts)]⟩ [.i,.i,.i,.i,.fs,.fs,.fs,.fs] (λS_ c_ Vq U_ Xa UV b UX U9 Vh=>S_ Vq U_ Xa UV b UX U9 Vh (λr0 r1 r2 r3 r4=>c_ (.tup [.agg [vwi r0,vwi r1,.rof r2,.rof r3],vwi r4]) [⟨36,1,.flts b⟩,⟨36,1,.flts UX⟩,⟨36,1,.flts U9⟩,⟨36,1,.flts Vh⟩])) N_ (P9 N_)
def Mp:FnSh:=⟨[.roi .u64,.int .i64,.roi .u64,.roi .u64,.agg [.roi .u64,.int .u64,.int .u64],.roi .u64,.roi .u64],[]⟩
end
theorem KL (w:World) (v:Value):Calls Tryz.prog 181 #[.nilIface,v] w λe w'=>e=.returned v/\w'=w:=
 M3 (P:=Tryz.prog) (fc:=181) (fn:=Tryz.f181) (by kernel_rfl) (by kernel_rfl) (by kernel_rfl) rfl rfl rfl rfl rfl rfl rfl rfl rfl rfl rfl rfl rfl rfl rfl rfl rfl rfl rfl (λ_=>rfl) (λ_=>by kernel_rfl) w v
theorem OU:rW Tryz.prog 180:=
 KA (P:=Tryz.prog) (g:=180) (fc:=181) (fg:=Tryz.f180) (ff:=Tryz.f181) (by kernel_rfl) (by kernel_rfl) (by kernel_rfl) (by kernel_rfl) rfl (by kernel_rfl) (by kernel_rfl) (by kernel_rfl) (by kernel_rfl) (by kernel_rfl) rfl rfl rfl rfl rfl rfl rfl rfl rfl rfl rfl (by kernel_rfl) (by kernel_rfl) KL
theorem hD_:HD Tryz.prog jp:=by
 intro g hg h;have e:g=180:=by have h:=DE h; simp at h; omega
 rcases e with rfl
 exact OU
end Go.Proofs.YtdinakfmablagaaGreatDoor
end
