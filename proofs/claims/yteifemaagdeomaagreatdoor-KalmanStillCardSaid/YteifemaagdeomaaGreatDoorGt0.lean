/-
  THE TIES: each printed meaning is what the program does (written by program).
  Conditions: none.
-/
import Derived.Test.YteifemaagdeomaaGreatDoorGs
set_option linter.unusedVariables false
namespace Go.Proofs.YteifemaagdeomaaGreatDoor
open Go Go.Mach Go.Proofs
set_option maxRecDepth 50000
noncomputable section
def jG:StSh:=⟨(.any::.any::.any::.slw 0::.any::.any::.roi .u64::.int .i64::.int .i64::sqs 10 []),[some (33,1,.flts)]⟩
def qN:StSh:=⟨(.any::.any::.any::.slw 0::sqs 15 []),[some (33,1,.flts)]⟩
def jp (N:Nat):List Atom->K->Bool:=hkT [.is,.i,.i,.fs] [0,0,1,1] N λκ ae2 aiA _ _=>oq N ae2 aiA (λr0=>κ.ext 0 (qN.build [.fls r0]))
def Cj (N:Nat):Nat->Option Ann:=λb_=>cond (b_==0) (some ⟨⟨[3,6,7,8],[(3,none,66)],[],[]⟩,[(0,⟨[3],[],[],[]⟩)],some ⟨[2],[],[],[]⟩,some (au [(jG,jp N)])⟩) (none)
theorem rk (N:Nat):ar (cxL Pg ab N (L2 N)) 0 (Cj N) (lp Pg 9 0) (jG,jp N):=ay
theorem o3 (N:Nat) (h:OKL Pg ab (L2 N)):OKL Pg ab (L3 N):=h.adT h 0 N (Cj N) 1 ⟨az (rk N),trivial⟩
theorem o4 (N:Nat) (h:OKL Pg ab (L3 N)):OKL Pg ab (L4 N):=h.adO 0 N
theorem o6 (N:Nat) (h:OKL Pg ab (L5 N)):OKL Pg ab (L6 N):=h.adO 0 N
def kd:StSh:=⟨(.int .u64::.int .i64::sqs 15 []),[]⟩
def r_:StSh:=⟨(.int .u64::.int .i64::sqs 15 []),[]⟩
def j9 (N:Nat):List Atom->K->Bool:=hkT [.i,.i] [1,1] N λκ _ _=>mR N (λr0 r1=>κ.ext 0 (r_.build [.int r0,.int r1]))
def DK (N:Nat):Nat->Option Ann:=λb_=>cond (b_==0) (some ⟨⟨[0,1],[],[],[]⟩,[(0,⟨[0,1],[],[],[]⟩)],some ⟨[4,5],[],[],[]⟩,some (au [(kd,j9 N)])⟩) (none)
theorem sf (N:Nat):ar (cxL Pg ab N (L6 N)) 0 (DK N) (lp Pg 201 0) (kd,j9 N):=ay
theorem o7 (N:Nat) (h:OKL Pg ab (L6 N)):OKL Pg ab (L7 N):=h.adT h 0 N (DK N) 1 ⟨az (sf N),trivial⟩
def iE:StSh:=⟨(.sl 0::sqs 20 []),[some (195,1,.ints .u32)]⟩
def pD:StSh:=⟨(.sl 0::sqs 20 []),[some (195,1,.ints .u32)]⟩
def ip (N:Nat):List Atom->K->Bool:=hkT [.n,.n,.is] [0,1,0] N λκ m_1 _ m_3=>Am N m_1 m_3 (λr1=>κ.ext 0 (pD.build [.nat m_1,.nat r1,.ints m_3]))
def Wf (N:Nat):Nat->Option Ann:=λb_=>cond (b_==0) (some ⟨⟨[0],[(0,some 0,0)],[],[]⟩,[(0,⟨[0],[],[],[]⟩)],some ⟨[2],[],[],[]⟩,some (au [(iE,ip N)])⟩) (none)
theorem qq (N:Nat):ar (cxL Pg ab N (L7 N)) 1 (Wf N) (lp Pg 150 0) (iE,ip N):=ay
theorem o8 (N:Nat) (h:OKL Pg ab (L7 N)):OKL Pg ab (L8 N):=h.adT h 1 N (Wf N) 1 ⟨az (qq N),trivial⟩
theorem o9 (N:Nat) (h:OKL Pg ab (L8 N)):OKL Pg ab (L9 N):=h.adO 1 N
def kc:StSh:=⟨(.roi .u32::sqs 20 []),[]⟩
def rZ:StSh:=⟨(.roi .u32::sqs 20 []),[]⟩
def j8 (N:Nat):List Atom->K->Bool:=hkT [.is] [1] N λκ _=>gI N (λr0=>κ.ext 0 (rZ.build [.ints r0]))
def DJ (N:Nat):Nat->Option Ann:=λb_=>cond (b_==0) (some ⟨⟨[0],[],[],[]⟩,[(0,⟨[0],[],[],[]⟩)],some ⟨[2],[],[],[]⟩,some (au [(kc,j8 N)])⟩) (none)
theorem se (N:Nat):ar (cxL Pg ab N (L9 N)) 0 (DJ N) (lp Pg 150 0) (kc,j8 N):=ay
theorem o10 (N:Nat) (h:OKL Pg ab (L9 N)):OKL Pg ab (L10 N):=h.aoT h 1 N (DJ N) 1 ⟨az (se N),trivial⟩
def jB:StSh:=⟨(.roi .u32::sqs 4 (.int .i64::.int .u64::.slw 0::.int .i64::sqs 49 [])),[some (195,1,.ints .u32)]⟩
def qI:StSh:=⟨(sqs 7 (.slw 0::sqs 50 [])),[some (195,1,.ints .u32)]⟩
def jj (N:Nat):List Atom->K->Bool:=hkT [.is,.i,.i,.i,.is] [0,0,0,1,1] N λκ m_1 w s _ _=>fI N m_1 w s (λr0=>κ.ext 0 (qI.build [.ints r0]))
def Ch (N:Nat):Nat->Option Ann:=λb_=>cond (b_==0) (some ⟨⟨[0,5,6,7,8],[],[],[]⟩,[(0,⟨[7],[],[],[]⟩)],some ⟨[4],[],[],[]⟩,some (au [(jB,jj N)])⟩) (none)
theorem rf (N:Nat):ar (cxL Pg ab N (L10 N)) 0 (Ch N) (lp Pg 181 0) (jB,jj N):=ay
theorem o11 (N:Nat) (h:OKL Pg ab (L10 N)):OKL Pg ab (L11 N):=h.adT h 1 N (Ch N) 1 ⟨az (rf N),trivial⟩
theorem ZJ (N:Nat) (x:Int) (c_:KV):ow (cxL Pg ab N (L11 N)) (λ_=>none) 174 [vwv x] [] c_=Ug N x (λr0=>c_ (vwi r0) []):=by
 have key:∀ L_:Int,aB (cxL Pg ab N (L11 N)) 0 (λ_=>none) (((cds Pg 174).drop 0).map (Kv 125613361 L_)) 0 (st0 Pg 174 [vwv x] []) (i8 Pg 174 0 c_)=(λ(k0:Ky9)=>cond (x==0) (k0 32) (inR (Int.fdiv (IntKind.wrap .u32 ((aE .and .u32 x (IntKind.wrap .u32 (0 - x)))*L_)) (2 ^ 27)) 32&&(ah .i64 (CU.getD (Int.toNat (Int.fdiv (IntKind.wrap .u32 ((aE .and .u32 x (IntKind.wrap .u32 (0 - x)))*L_)) (2 ^ 27))) 0)&&k0 (CU.getD (Int.toNat (Int.fdiv (IntKind.wrap .u32 ((aE .and .u32 x (IntKind.wrap .u32 (0 - x)))*L_)) (2 ^ 27))) 0)))) (λr0=>c_ (vwi r0) []):=λL_=>by kernel_rfl
 have hc:(cds Pg 174).drop 0=((cds Pg 174).drop 0).map (Kv 125613361 125613361):=by kernel_rfl
 refine(i6 (by kernel_rfl)).trans ?_;show aB _ _ _ ((cds Pg 174).drop 0) _ _ _=_;rw[hc];exact key 125613361
theorem o12 (N:Nat) (h:OKL Pg ab (L11 N)):OKL Pg ab (L12 N):=h.adT h 0 N (λ_=>none) 0 trivial (he:=λt k=>kl (ZJ N t.1 k) (by kernel_rfl) (by kernel_rfl))
def ca:StSh:=⟨(.ptr 0 0::.any::.any::.int .i64::sqs 29 []),[some (151,1,.cells [.bool,.roi .u32])]⟩
def fB:StSh:=⟨(.any::.any::.int .u64::sqs 30 []),[some (151,1,.cells [.bool,.roi .u32])]⟩
def fC:StSh:=⟨(sqs 33 []),[some (151,1,.cells [.bool,.roi .u32])]⟩
def bY (N:Nat):List Atom->K->Bool:=hkT [.i,.b,.is] [1,0,0] N λκ _ z z_1=>HU N z z_1 (λr0=>κ.ret (fB.build [.int r0,.bool z,.ints z_1])) (κ.ext 0 (fC.build [.bool z,.ints z_1]))
def ZB (N:Nat):Nat->Option Ann:=λb_=>cond (b_==0) (some ⟨⟨[0,3],[],[],[]⟩,[(0,⟨[],[],[],[]⟩)],some ⟨[2],[],[],[]⟩,some (au [(ca,bY N)])⟩) (none)
theorem fD (N:Nat):ar (cxL Pg ab N (L12 N)) 1 (ZB N) (lp Pg 144 0) (ca,bY N):=ay
theorem o13 (N:Nat) (h:OKL Pg ab (L12 N)):OKL Pg ab (L13 N):=h.adT h 1 N (ZB N) 1 ⟨az (fD N),trivial⟩
def iG:StSh:=⟨(.roi .u32::sqs 4 (.int .i64::.int .u64::.slw 0::.int .i64::sqs 55 [])),[some (195,1,.ints .u32)]⟩
def pF:StSh:=⟨(sqs 7 (.slw 0::sqs 56 [])),[some (195,1,.ints .u32)]⟩
def ir (N:Nat):List Atom->K->Bool:=hkT [.is,.i,.i,.i,.is] [0,0,0,1,1] N λκ m_1 w s _ _=>mN N m_1 w s (λr0=>κ.ext 0 (pF.build [.ints r0]))
def Wl (N:Nat):Nat->Option Ann:=λb_=>cond (b_==0) (some ⟨⟨[0,5,6,7,8],[],[],[]⟩,[(0,⟨[7],[],[],[]⟩)],some ⟨[4],[],[],[]⟩,some (au [(iG,ir N)])⟩) (none)
theorem qt (N:Nat):ar (cxL Pg ab N (L13 N)) 0 (Wl N) (lp Pg 145 0) (iG,ir N):=ay
theorem o14 (N:Nat) (h:OKL Pg ab (L13 N)):OKL Pg ab (L14 N):=h.adT h 1 N (Wl N) 1 ⟨az (qt N),trivial⟩
theorem o15 (N:Nat) (h:OKL Pg ab (L14 N)):OKL Pg ab (L15 N):=h.adO 0 N
theorem o16 (N:Nat) (h:OKL Pg ab (L15 N)):OKL Pg ab (L16 N):=h.adO 1 N
def gz:StSh:=⟨(.roi .u32::.roi .u32::.any::.any::.any::.int .i64::sqs 35 []),[]⟩
def nV:StSh:=⟨(sqs 4 (.int .i64::sqs 36 [])),[]⟩
def oa:StSh:=⟨(sqs 41 []),[]⟩
def gq (N:Nat):List Atom->K->Bool:=hkT [.is,.is,.i] [0,0,1] N λκ a_1 b_1 _=>Ai N a_1 b_1 (λr0=>κ.ret (nV.build [.int r0])) (κ.ext 0 (oa.build []))
def Wi (N:Nat):Nat->Option Ann:=λb_=>cond (b_==0) (some ⟨⟨[0,1,5],[],[],[]⟩,[(0,⟨[],[],[],[]⟩)],some ⟨[4],[],[],[]⟩,some (au [(gz,gq N)])⟩) (none)
theorem oD (N:Nat):ar (cxL Pg ab N (L16 N)) 0 (Wi N) (lp Pg 148 0) (gz,gq N):=ay
theorem o17 (N:Nat) (h:OKL Pg ab (L16 N)):OKL Pg ab (L17 N):=h.adT h 1 N (Wi N) 1 ⟨az (oD N),trivial⟩
def jA:StSh:=⟨(sqs 5 (.roi .u32::.int .u64::.int .i64::sqs 20 [])),[]⟩
def qH:StSh:=⟨(sqs 6 (.int .u64::sqs 21 [])),[]⟩
def ji (N:Nat):List Atom->K->Bool:=hkT [.is,.i,.i] [0,1,1] N λκ x _ _=>om N x (λr0=>κ.ext 0 (qH.build [.int r0]))
def Cg (N:Nat):Nat->Option Ann:=λb_=>cond (b_==0) (some ⟨⟨[5,6,7],[],[],[]⟩,[(0,⟨[6],[],[],[]⟩)],some ⟨[4],[],[],[]⟩,some (au [(jA,ji N)])⟩) (none)
theorem re (N:Nat):ar (cxL Pg ab N (L17 N)) 0 (Cg N) (lp Pg 177 0) (jA,ji N):=ay
theorem o18 (N:Nat) (h:OKL Pg ab (L17 N)):OKL Pg ab (L18 N):=h.adT h 1 N (Cg N) 1 ⟨az (re N),trivial⟩
def iI:StSh:=⟨(sqs 8 (.int .i64::.int .i64::.int .i64::.int .i64::.int .i64::.int .i64::sqs 71 [])),[]⟩
def pH:StSh:=⟨(sqs 8 (.int .i64::.int .i64::.int .i64::.int .i64::sqs 73 [])),[]⟩
def iv (N:Nat):List Atom->K->Bool:=hkT [.i,.i,.i,.i,.i,.i] [1,1,1,1,1,1] N λκ _ _ _ _ _ _=>nT N (λr0 r1 r2 r3=>κ.ext 0 (pH.build [.int r0,.int r1,.int r2,.int r3]))
def RD (N:Nat):Nat->Option Ann:=λb_=>cond (b_==0) (some ⟨⟨[8,9,10,11,12,13],[],[],[]⟩,[(0,⟨[8,9,10,11],[],[],[]⟩)],some ⟨[4,5,6,7],[],[],[]⟩,some (au [(iI,iv N)])⟩) (none)
theorem qv (N:Nat):ar (cxL Pg ab N (L18 N)) 0 (RD N) (lp Pg 176 0) (iI,iv N):=ay
theorem o19 (N:Nat) (h:OKL Pg ab (L18 N)):OKL Pg ab (L19 N):=h.adT h 1 N (RD N) 1 ⟨az (qv N),trivial⟩
def iH:StSh:=⟨(.roi .u32::.int .u32::sqs 4 (.slw 0::.int .u64::.int .i64::sqs 35 [])),[some (195,1,.ints .u32)]⟩
def pG:StSh:=⟨(sqs 6 (.slw 0::.int .u64::sqs 36 [])),[some (195,1,.ints .u32)]⟩
def iu (N:Nat):List Atom->K->Bool:=hkT [.is,.i,.i,.i,.is] [0,0,1,1,1] N λκ m_1 d_1 _ _ _=>mO N m_1 d_1 (λr0 r1=>κ.ext 0 (pG.build [.int r0,.ints r1]))
def Rz (N:Nat):Nat->Option Ann:=λb_=>cond (b_==0) (some ⟨⟨[0,1,6,7,8],[],[],[]⟩,[(0,⟨[6,7],[],[],[]⟩)],some ⟨[4,5],[],[],[]⟩,some (au [(iH,iu N)])⟩) (none)
theorem qu (N:Nat):ar (cxL Pg ab N (L19 N)) 0 (Rz N) (lp Pg 179 0) (iH,iu N):=ay
theorem o20 (N:Nat) (h:OKL Pg ab (L19 N)):OKL Pg ab (L20 N):=h.adT h 1 N (Rz N) 1 ⟨az (qu N),trivial⟩
def gi:StSh:=⟨(.sl 0::.sl 1::.int .i64::.int .u64::sqs 5 (.int .u64::.int .u64::.int .i64::sqs 79 [])),[some (195,1,.ints .u32),some (195,1,.ints .u32)]⟩
def nl:StSh:=⟨(.sl 0::.sl 1::.int .i64::sqs 6 (.int .u64::.int .u64::sqs 80 [])),[some (195,1,.ints .u32),some (195,1,.ints .u32)]⟩
def f_ (N:Nat):List Atom->K->Bool:=hkT [.n,.n,.n,.n,.i,.i,.i,.i,.i,.is,.is] [0,0,0,0,0,0,1,1,1,1,0] N λκ u u_2 d d_2 j_1 g_1 _ _ _ _ d_3=>iP N u u_2 d d_2 j_1 g_1 d_3 (λr5 r6 r7=>κ.ext 0 (nl.build [.nat u,.nat u_2,.nat d,.nat d_2,.int j_1,.int r5,.int r6,.ints r7,.ints d_3]))
def Rr (N:Nat):Nat->Option Ann:=λb_=>cond (b_==0) (some ⟨⟨[0,1,2,3,9,10,11],[],[],[]⟩,[(0,⟨[0,1,2,9,10],[],[],[]⟩)],some ⟨[8],[],[],[]⟩,some (au [(gi,f_ N)])⟩) (none)
theorem nH (N:Nat):ar (cxL Pg ab N (L20 N)) 2 (Rr N) (lp Pg 182 0) (gi,f_ N):=ay
theorem o21 (N:Nat) (h:OKL Pg ab (L20 N)):OKL Pg ab (L21 N):=h.adT h 1 N (Rr N) 1 ⟨az (nH N),trivial⟩
def gj:StSh:=⟨(.sl 0::.sl 1::.int .i64::.any::.any::.any::.int .u64::.int .i64::sqs 42 []),[some (195,1,.ints .u32),some (195,1,.ints .u32)]⟩
def nn:StSh:=⟨(.sl 0::.sl 1::.int .i64::.any::.any::.any::.int .u64::sqs 43 []),[some (195,1,.ints .u32),some (195,1,.ints .u32)]⟩
def ga (N:Nat):List Atom->K->Bool:=hkT [.n,.n,.n,.n,.i,.i,.i,.is,.is] [0,0,0,0,0,1,1,1,0] N λκ u u_2 d d_2 j_1 _ _ _ d_3=>iQ N u u_2 d d_2 j_1 d_3 (λr5 r6=>κ.ext 0 (nn.build [.nat u,.nat u_2,.nat d,.nat d_2,.int j_1,.int r5,.ints r6,.ints d_3]))
def Rs (N:Nat):Nat->Option Ann:=λb_=>cond (b_==0) (some ⟨⟨[0,1,2,6,7],[],[],[]⟩,[(0,⟨[0,1,2,6],[],[],[]⟩)],some ⟨[],[],[],[]⟩,some (au [(gj,ga N)])⟩) (none)
theorem nI (N:Nat):ar (cxL Pg ab N (L21 N)) 2 (Rs N) (lp Pg 183 0) (gj,ga N):=ay
theorem o22 (N:Nat) (h:OKL Pg ab (L21 N)):OKL Pg ab (L22 N):=h.adT h 1 N (Rs N) 1 ⟨az (nI N),trivial⟩
def iD:StSh:=⟨(.sl 0::sqs 20 []),[some (195,1,.ints .u32)]⟩
def pC:StSh:=⟨(.sl 0::sqs 20 []),[some (195,1,.ints .u32)]⟩
def io (N:Nat):List Atom->K->Bool:=hkT [.n,.n,.is] [0,1,0] N λκ m _ m_3=>Al N m m_3 (λr1=>κ.ext 0 (pC.build [.nat m,.nat r1,.ints m_3]))
def RC (N:Nat):Nat->Option Ann:=λb_=>cond (b_==0) (some ⟨⟨[0],[],[],[]⟩,[(0,⟨[0],[],[],[]⟩)],some ⟨[2],[],[],[]⟩,some (au [(iD,io N)])⟩) (none)
theorem qp (N:Nat):ar (cxL Pg ab N (L22 N)) 1 (RC N) (lp Pg 150 0) (iD,io N):=ay
theorem o23 (N:Nat) (h:OKL Pg ab (L22 N)):OKL Pg ab (L23 N):=h.aoT h 1 N (RC N) 1 ⟨az (qp N),trivial⟩
def gA:StSh:=⟨(.sl 0::sqs 4 (.int .i64::.int .u64::.slw 1::.int .i64::sqs 55 [])),[some (195,1,.ints .u32),some (195,1,.ints .u32)]⟩
def nW:StSh:=⟨(sqs 7 (.slw 1::sqs 56 [])),[some (195,1,.ints .u32),some (195,1,.ints .u32)]⟩
def gr (N:Nat):List Atom->K->Bool:=hkT [.n,.n,.i,.i,.i,.is,.is] [0,0,0,0,1,0,1] N λκ m m_2 w s _ m_3 _=>jZ N m m_2 w s m_3 (λr1=>κ.ext 0 (nW.build [.ints m_3,.ints r1]))
def Ru (N:Nat):Nat->Option Ann:=λb_=>cond (b_==0) (some ⟨⟨[0,5,6,7,8],[],[],[]⟩,[(0,⟨[7],[],[],[]⟩)],some ⟨[4],[],[],[]⟩,some (au [(gA,gr N)])⟩) (none)
theorem oE (N:Nat):ar (cxL Pg ab N (L23 N)) 1 (Ru N) (lp Pg 145 0) (gA,gr N):=ay
theorem o24 (N:Nat) (h:OKL Pg ab (L23 N)):OKL Pg ab (L24 N):=h.aoT h 1 N (Ru N) 1 ⟨az (oE N),trivial⟩
def iK:StSh:=⟨(.roi .u32::.roi .u32::.any::.any::.any::.slw 0::.int .i64::.int .u64::.int .i64::sqs 59 []),[some (195,1,.ints .u32)]⟩
def pJ:StSh:=⟨(.roi .u32::.roi .u32::.any::.any::.any::.slw 0::.int .i64::.int .u64::sqs 60 []),[some (195,1,.ints .u32)]⟩
def ix (N:Nat):List Atom->K->Bool:=hkT [.is,.is,.i,.i,.i,.is] [0,0,0,1,1,1] N λκ a_2 b_2 i_1 _ _ _=>mQ N a_2 b_2 i_1 (λr3 r4=>κ.ext 2 (pJ.build [.ints a_2,.ints b_2,.int i_1,.int r3,.ints r4]))
def iJ:StSh:=⟨(.roi .u32::.roi .u32::.any::.any::.any::.slw 0::.int .i64::sqs 61 []),[some (195,1,.ints .u32)]⟩
def pI:StSh:=⟨(sqs 5 (.slw 0::sqs 62 [])),[some (195,1,.ints .u32)]⟩
def iw (N:Nat):List Atom->K->Bool:=hkT [.is,.is,.i,.is] [0,0,1,1] N λκ a_1 b_1 _ _=>mP N a_1 b_1 (λr0=>κ.ext 0 (pI.build [.ints r0]))
def RJ (N:Nat):Nat->Option Ann:=λb_=>cond (b_==2) (some ⟨⟨[0,1,5,6,7,8],[],[],[]⟩,[(2,⟨[0,1,5,6,7],[],[],[]⟩)],some ⟨[4],[],[],[]⟩,some (au [(iK,ix N)])⟩) (cond (b_==0) (some ⟨⟨[0,1,5,6],[],[],[]⟩,[(0,⟨[5],[],[],[]⟩)],some ⟨[4],[],[],[]⟩,some (au [(iJ,iw N)])⟩) (none))
theorem qx (N:Nat):ar (cxL Pg ab N (L24 N)) 0 (RJ N) (lp Pg 128 1) (iK,ix N):=ay
theorem qw (N:Nat):ar (cxL Pg ab N (L24 N)) 0 (RJ N) (lp Pg 128 0) (iJ,iw N):=ay
theorem o25 (N:Nat) (h:OKL Pg ab (L24 N)):OKL Pg ab (L25 N):=h.adT h 1 N (RJ N) 2 ⟨az (qw N),az (qx N),trivial⟩
def iF:StSh:=⟨(.roi .u32::.roi .u32::.any::.any::.any::.slw 0::.int .u64::.int .i64::sqs 48 []),[some (195,1,.ints .u32)]⟩
def pE:StSh:=⟨(sqs 5 (.slw 0::sqs 50 [])),[some (195,1,.ints .u32)]⟩
def iq (N:Nat):List Atom->K->Bool:=hkT [.is,.is,.i,.i,.is] [0,0,1,1,1] N λκ a_1 b_1 _ _ _=>mM N a_1 b_1 (λr0=>κ.ext 0 (pE.build [.ints r0]))
def Ry (N:Nat):Nat->Option Ann:=λb_=>cond (b_==0) (some ⟨⟨[0,1,5,6,7],[],[],[]⟩,[(0,⟨[5],[],[],[]⟩)],some ⟨[4],[],[],[]⟩,some (au [(iF,iq N)])⟩) (none)
theorem qs (N:Nat):ar (cxL Pg ab N (L25 N)) 0 (Ry N) (lp Pg 204 0) (iF,iq N):=ay
theorem o26 (N:Nat) (h:OKL Pg ab (L25 N)):OKL Pg ab (L26 N):=h.adT h 1 N (Ry N) 1 ⟨az (qs N),trivial⟩
theorem o27 (N:Nat) (h:OKL Pg ab (L26 N)):OKL Pg ab (L27 N):=h.adO 1 N
theorem o28 (N:Nat) (h:OKL Pg ab (L27 N)):OKL Pg ab (L28 N):=h.adO 1 N
def hK:StSh:=⟨(.int .i64::.int .i64::.any::.any::.ptr 0 0::.ptr 1 0::.int .i64::sqs 17 []),[some (126,1,.cells [.int .i64,.int .i64,.nil]),some (126,1,.cells [.int .i64,.int .i64,.slw 2]),some (146,1,.own 153 RT1)]⟩
def pg:StSh:=⟨(sqs 4 (.ptr 0 0::.ptr 1 0::sqs 18 [])),[some (126,1,.cells [.int .i64,.int .i64,.nil]),some (126,1,.cells [.int .i64,.int .i64,.slw 2]),some (146,1,.own 153 RT1)]⟩
def gS (N:Nat):List Atom->K->Bool:=hkT [.i,.i,.i,.i,.i,.i,.i,.r RT1] [0,0,1,0,0,0,0,1] N λκ afT afQ _ aek ael m_2 m_3 _=>lh N afT afQ aek ael m_2 m_3 (λr4=>κ.ext 0 (pg.build [.int aek,.int ael,.int m_2,.int m_3,.recs RT1 r4]))
def RB (N:Nat):Nat->Option Ann:=λb_=>cond (b_==0) (some ⟨⟨[0,1,4,5,6],[(5,some 2,293)],[],[]⟩,[(0,⟨[4,5],[],[],[]⟩)],some ⟨[4],[],[],[]⟩,some (au [(hK,gS N)])⟩) (none)
theorem pA (N:Nat):ar (cxL Pg ab N (L28 N)) 0 (RB N) (lp Pg 122 0) (hK,gS N):=ay
theorem o29 (N:Nat) (h:OKL Pg ab (L28 N)):OKL Pg ab (L29 N):=h.adT h 0 N (RB N) 1 ⟨az (pA N),trivial⟩
theorem o30 (N:Nat) (h:OKL Pg ab (L29 N)):OKL Pg ab (L30 N):=h.adO 1 N
def jF:StSh:=⟨(.roi .u32::.roi .u32::sqs 4 (.slw 0::.int .u64::.int .i64::sqs 52 [])),[some (195,1,.ints .u32)]⟩
def qM:StSh:=⟨(.roi .u32::sqs 5 (.slw 0::.int .u64::sqs 53 [])),[some (195,1,.ints .u32)]⟩
def jo (N:Nat):List Atom->K->Bool:=hkT [.is,.is,.i,.i,.is] [0,0,1,1,1] N λκ a_1 b_1 _ _ _=>ib N a_1 b_1 (λr1 r2=>κ.ext 0 (qM.build [.ints a_1,.int r1,.ints r2]))
def Ci (N:Nat):Nat->Option Ann:=λb_=>cond (b_==0) (some ⟨⟨[0,1,6,7,8],[],[],[]⟩,[(0,⟨[0,6,7],[],[],[]⟩)],some ⟨[4],[],[],[]⟩,some (au [(jF,jo N)])⟩) (none)
theorem rj (N:Nat):ar (cxL Pg ab N (L30 N)) 0 (Ci N) (lp Pg 203 0) (jF,jo N):=ay
theorem o31 (N:Nat) (h:OKL Pg ab (L30 N)):OKL Pg ab (L31 N):=h.adT h 1 N (Ci N) 1 ⟨az (rj N),trivial⟩
theorem ZK (N:Nat) (x:Int) (c_:KV):ow (cxL Pg ab N (L31 N)) (λ_=>none) 206 [vwu x] [] c_=Uh N x (λr0=>c_ (vwi r0) []):=by
 have key:∀ L_:Int,aB (cxL Pg ab N (L31 N)) 0 (λ_=>none) (((cds Pg 206).drop 0).map (Kv 285870213051353865 L_)) 0 (st0 Pg 206 [vwu x] []) (i8 Pg 206 0 c_)=(λ(k0:Ky9)=>cond (x==0) (k0 64) (inR (Int.fdiv (IntKind.wrap .u64 ((aE .and .u64 x (IntKind.wrap .u64 (0 - x)))*L_)) (2 ^ 58)) 64&&(ah .i64 (CV.getD (Int.toNat (Int.fdiv (IntKind.wrap .u64 ((aE .and .u64 x (IntKind.wrap .u64 (0 - x)))*L_)) (2 ^ 58))) 0)&&k0 (CV.getD (Int.toNat (Int.fdiv (IntKind.wrap .u64 ((aE .and .u64 x (IntKind.wrap .u64 (0 - x)))*L_)) (2 ^ 58))) 0)))) (λr0=>c_ (vwi r0) []):=λL_=>by kernel_rfl
 have hc:(cds Pg 206).drop 0=((cds Pg 206).drop 0).map (Kv 285870213051353865 285870213051353865):=by kernel_rfl
 refine(i6 (by kernel_rfl)).trans ?_;show aB _ _ _ ((cds Pg 206).drop 0) _ _ _=_;rw[hc];exact key 285870213051353865
theorem o32 (N:Nat) (h:OKL Pg ab (L31 N)):OKL Pg ab (L32 N):=h.adT h 0 N (λ_=>none) 0 trivial (he:=λt k=>kl (ZK N t.1 k) (by kernel_rfl) (by kernel_rfl))
def rQ:StSh:=⟨(.slw 0::.any::.any::.int .i64::sqs 17 []),[some (23,1,.ints .u64)]⟩
def yU:StSh:=⟨(.slw 0::.any::.any::.int .i64::sqs 17 []),[some (23,1,.ints .u64)]⟩
def rq (N:Nat):List Atom->K->Bool:=hkT [.i,.is] [1,0] N λκ _ x=>Ak N x (λr0=>κ.ext 0 (yU.build [.int r0,.ints x]))
def Wk (N:Nat):Nat->Option Ann:=λb_=>cond (b_==0) (some ⟨⟨[0,3],[],[],[]⟩,[(0,⟨[0,3],[],[],[]⟩)],some ⟨[2],[],[],[]⟩,some (au [(rQ,rq N)])⟩) (none)
theorem zP (N:Nat):ar (cxL Pg ab N (L32 N)) 1 (Wk N) (lp Pg 207 0) (rQ,rq N):=ay
theorem o33 (N:Nat) (h:OKL Pg ab (L32 N)):OKL Pg ab (L33 N):=h.adT h 1 N (Wk N) 1 ⟨az (zP N),trivial⟩
def ub:StSh:=⟨(sqs 5 (.int .i64::.int .u64::.slw 0::sqs 16 (.roi .u64::.int .i64::.int .i64::sqs 28 []))),[some (23,1,.ints .u64)]⟩
def Bf:StSh:=⟨(sqs 7 (.slw 0::sqs 47 [])),[some (23,1,.ints .u64)]⟩
def tP (N:Nat):List Atom->K->Bool:=hkT [.i,.i,.is,.i,.i,.is] [0,0,0,0,1,1] N λκ words rest t24 t25 _ _=>fH N words rest t24 t25 (λr0=>κ.ext 0 (Bf.build [.ints r0]))
def Cf (N:Nat):Nat->Option Ann:=λb_=>cond (b_==0) (some ⟨⟨[5,6,7,24,25,26],[],[],[]⟩,[(0,⟨[7],[],[],[]⟩)],some ⟨[4],[],[],[]⟩,some (au [(ub,tP N)])⟩) (none)
theorem BJ (N:Nat):ar (cxL Pg ab N (L33 N)) 0 (Cf N) (lp Pg 188 0) (ub,tP N):=ay
theorem o34 (N:Nat) (h:OKL Pg ab (L33 N)):OKL Pg ab (L34 N):=h.adT h 1 N (Cf N) 1 ⟨az (BJ N),trivial⟩
def p6:StSh:=⟨(.roi .u64::.roi .u64::.any::.any::.any::.int .i64::sqs 35 []),[]⟩
def xK:StSh:=⟨(sqs 4 (.int .i64::sqs 36 [])),[]⟩
def xQ:StSh:=⟨(sqs 41 []),[]⟩
def pS (N:Nat):List Atom->K->Bool:=hkT [.is,.is,.i] [0,0,1] N λκ x_1 y_1 _=>Ah N x_1 y_1 (λr0=>κ.ret (xK.build [.int r0])) (κ.ext 0 (xQ.build []))
def Wn (N:Nat):Nat->Option Ann:=λb_=>cond (b_==0) (some ⟨⟨[0,1,5],[],[],[]⟩,[(0,⟨[],[],[],[]⟩)],some ⟨[4],[],[],[]⟩,some (au [(p6,pS N)])⟩) (none)
theorem yL (N:Nat):ar (cxL Pg ab N (L34 N)) 0 (Wn N) (lp Pg 209 0) (p6,pS N):=ay
theorem o35 (N:Nat) (h:OKL Pg ab (L34 N)):OKL Pg ab (L35 N):=h.adT h 1 N (Wn N) 1 ⟨az (yL N),trivial⟩
def ME:FnSh:=⟨[.int .u64],[]⟩
def SZ (d_:List V) (u_:List (Option Blk)) (x x_2 n_1:Int):St:=⟨(vwu x_2::(dq d_ 0)::vwi n_1::dqs d_ 1 22 []),[]⟩
def ND (d_:List V) (u_:List (Option Blk)) (x x_1 n:Int):St:=⟨(vwu x_1::(dq d_ 0)::vwi n::dqs d_ 1 22 []),[]⟩
theorem aaj (N:Nat) (d_:List V) (u_:List (Option Blk)) (x x_2 n_1:Int) (c_:KV):aB (cxL Pg ab N (L35 N)) 0 (λ_=>none) ((cds Pg 231).drop 5) 0 (SZ d_ u_ x x_2 n_1) (i8 Pg 231 0 c_)=Q5 N x x_2 n_1 (λr0=>c_ (vwi r0) []):=by kernel_rfl
theorem Z0 (N:Nat) (d_:List V) (u_:List (Option Blk)) (x x_1 n:Int) (c_:KV) (κn_:St->Bool):aB (cxL Pg ab N (L35 N)) 0 (λ_=>none) (sg Pg 231 3 2) 0 (ND d_ u_ x x_1 n) { (i8 Pg 231 0 c_)with nrm:=κn_ } = (cond (decide (x_1>=65536)) (ah .i64 (n+16)&&κn_ (SZ (dqs d_ 0 5 (vwu x_1::.bool true::vwu x_1::vwu (Int.fdiv x_1 (2 ^ 16))::vwi n::vwi (n+16)::dqs d_ 11 12 [])) [] x (Int.fdiv x_1 (2 ^ 16)) (n+16))) (κn_ (SZ (dqs d_ 0 5 (vwu x_1::.bool false::dqs d_ 7 16 [])) [] x x_1 n))):=by kernel_rfl
theorem aag (N:Nat) (d_:List V) (u_:List (Option Blk)) (x x_1 n:Int) (c_:KV):aB (cxL Pg ab N (L35 N)) 0 (λ_=>none) ((cds Pg 231).drop 3) 0 (ND d_ u_ x x_1 n) (i8 Pg 231 0 c_)=Q3 N x x_1 n (λr0=>c_ (vwi r0) []):=by rw[bg 3 2 5 rfl];refine(Z0 N d_ u_ x x_1 n c_ _).trans ?_;simp only[aaj];kernel_rfl
theorem AG (N:Nat) (x:Int) (c_:KV) (κn_:St->Bool):aB (cxL Pg ab N (L35 N)) 0 (λ_=>none) (sg Pg 231 0 3) 0 (st0 Pg 231 (ME.args [.int x]) []) { (i8 Pg 231 0 c_)with nrm:=κn_ } = (cond (decide (x>=4294967296)) (κn_ (ND (.any::vwu x::.bool true::vwu x::vwu (Int.fdiv x (2 ^ 32))::vqs 18 []) [] x (Int.fdiv x (2 ^ 32)) 32)) (κn_ (ND (.any::vwu x::.bool false::vqs 20 []) [] x x 0))):=by kernel_rfl
theorem AQ (N:Nat) (x:Int) (c_:KV):aB (cxL Pg ab N (L35 N)) 0 (λ_=>none) ((cds Pg 231).drop 0) 0 (st0 Pg 231 (ME.args [.int x]) []) (i8 Pg 231 0 c_)=QW N x (λr0=>c_ (vwi r0) []):=by rw[bg 0 3 3 rfl];refine(AG N x c_ _).trans ?_;simp only[aag];kernel_rfl
theorem ZN (N:Nat) (x:Int) (c_:KV):ow (cxL Pg ab N (L35 N)) (λ_=>none) 231 (ME.args [.int x]) [] c_=QW N x (λr0=>c_ (vwi r0) []):=
 (i6 (by kernel_rfl)).trans (AQ N x c_)
theorem o36 (N:Nat) (h:OKL Pg ab (L35 N)):OKL Pg ab (L36 N):=h.adT h 0 N (λ_=>none) 0 trivial (he:=λt k=>kl (ZN N t.1 k) (by kernel_rfl) (by kernel_rfl))
theorem o37 (N:Nat) (h:OKL Pg ab (L36 N)):OKL Pg ab (L37 N):=h.adO 1 N
def sS:StSh:=⟨(.int .u64::.int .u64::.any::.any::.ptr 0 0::.ptr 1 0::.int .u64::.int .u64::sqs 49 []),[some (263,1,.cells [.int .u64,.int .u64,.int .u64,.int .u64,.bool]),some (263,1,.cells [.int .u64,.int .u64,.int .u64,.int .u64,.bool])]⟩
def Ao:StSh:=⟨(sqs 4 (.ptr 0 0::.ptr 1 0::sqs 51 [])),[some (263,1,.cells [.int .u64,.int .u64,.int .u64,.int .u64,.bool]),some (263,1,.cells [.int .u64,.int .u64,.int .u64,.int .u64,.bool])]⟩
def sJ (N:Nat):List Atom->K->Bool:=hkT [.i,.i,.i,.i,.i,.i,.i,.i,.b,.i,.i,.i,.i,.b] [1,1,1,1,0,0,0,0,0,1,1,1,1,1] N λκ _ _ _ _ t4 aeT aek ael aiy _ _ _ _ _=>rV N t4 aeT aek ael aiy (λr5 r6 r7 r8 r9=>κ.ext 0 (Ao.build [.int t4,.int aeT,.int aek,.int ael,.bool aiy,.int r5,.int r6,.int r7,.int r8,.bool r9]))
def Au (N:Nat):Nat->Option Ann:=λb_=>cond (b_==0) (some ⟨⟨[0,1,4,5,6,7],[],[],[]⟩,[(0,⟨[4,5],[],[],[]⟩)],some ⟨[4],[],[],[]⟩,some (au [(sS,sJ N)])⟩) (none)
theorem AJ (N:Nat):ar (cxL Pg ab N (L37 N)) 0 (Au N) (lp Pg 219 0) (sS,sJ N):=ay
theorem o38 (N:Nat) (h:OKL Pg ab (L37 N)):OKL Pg ab (L38 N):=h.adT h 1 N (Au N) 1 ⟨az (AJ N),trivial⟩
theorem o39 (N:Nat) (h:OKL Pg ab (L38 N)):OKL Pg ab (L39 N):=h.adO 0 N
theorem o41 (N:Nat) (h:OKL Pg ab (L40 N)):OKL Pg ab (L41 N):=h.adO 1 N
def ue:StSh:=⟨(.roi .u64::.int .u64::.int .u64::sqs 4 (.slw 0::sqs 6 (.roi .u64::.int .i64::.int .i64::sqs 22 []))),[some (23,1,.ints .u64)]⟩
def Bh:StSh:=⟨(.roi .u64::.any::.int .u64::sqs 4 (.slw 0::sqs 31 [])),[some (23,1,.ints .u64)]⟩
def tR (N:Nat):List Atom->K->Bool:=hkT [.is,.i,.i,.is,.i,.i,.is] [0,0,1,0,0,1,1] N λκ x_1 d_1 _ t14 t15 _ _=>ol N x_1 d_1 t14 t15 (λr1 r2=>κ.ext 0 (Bh.build [.ints x_1,.int r1,.ints r2]))
def Rt (N:Nat):Nat->Option Ann:=λb_=>cond (b_==0) (some ⟨⟨[0,1,2,7,14,15,16],[],[],[]⟩,[(0,⟨[0,2,7],[],[],[]⟩)],some ⟨[6],[],[],[]⟩,some (au [(ue,tR N)])⟩) (none)
theorem BL (N:Nat):ar (cxL Pg ab N (L41 N)) 0 (Rt N) (lp Pg 234 0) (ue,tR N):=ay
theorem o42 (N:Nat) (h:OKL Pg ab (L41 N)):OKL Pg ab (L42 N):=h.adT h 1 N (Rt N) 1 ⟨az (BL N),trivial⟩
def rP:StSh:=⟨(.sl 0::.any::.any::.int .i64::sqs 17 []),[some (23,1,.ints .u64)]⟩
def yT:StSh:=⟨(.sl 0::.any::.any::.int .i64::sqs 17 []),[some (23,1,.ints .u64)]⟩
def rn (N:Nat):List Atom->K->Bool:=hkT [.n,.n,.i,.is] [0,0,1,0] N λκ x x_2 _ x_3=>Aj N x x_2 x_3 (λr2=>κ.ext 0 (yT.build [.nat x,.nat x_2,.int r2,.ints x_3]))
def RA (N:Nat):Nat->Option Ann:=λb_=>cond (b_==0) (some ⟨⟨[0,3],[],[],[]⟩,[(0,⟨[0,3],[],[],[]⟩)],some ⟨[2],[],[],[]⟩,some (au [(rP,rn N)])⟩) (none)
theorem zO (N:Nat):ar (cxL Pg ab N (L43 N)) 1 (RA N) (lp Pg 207 0) (rP,rn N):=ay
theorem o44 (N:Nat) (h:OKL Pg ab (L43 N)):OKL Pg ab (L44 N):=h.aoT h 1 N (RA N) 1 ⟨az (zO N),trivial⟩
def sU:StSh:=⟨(.any::.roi .u64::.any::.any::.any::.slw 0::.int .i64::.int .u64::.int .u64::sqs 16 (.roi .u64::.int .i64::.int .i64::sqs 4 (.roi .u64::.int .i64::.int .i64::sqs 33 []))),[some (23,1,.ints .u64)]⟩
def Aq:StSh:=⟨(.any::.roi .u64::.any::.any::.any::.slw 0::.int .i64::.any::.int .u64::sqs 16 (.roi .u64::.int .i64::.int .i64::sqs 40 [])),[some (23,1,.ints .u64)]⟩
def sL (N:Nat):List Atom->K->Bool:=hkT [.is,.i,.i,.i,.is,.i,.i,.is,.i,.i,.is] [0,0,0,1,0,0,0,0,0,1,1] N λκ y_2 i a _ ahB ahC ahD t32 t33 _ _=>mK N y_2 i a ahB ahC ahD t32 t33 (λr2 r6=>κ.ext 2 (Aq.build [.ints y_2,.int i,.int r2,.ints ahB,.int ahC,.int ahD,.ints r6]))
def sT:StSh:=⟨(.any::.roi .u64::.any::.any::.any::.slw 0::sqs 19 (.roi .u64::.int .i64::.int .i64::sqs 40 [])),[some (23,1,.ints .u64)]⟩
def Ap:StSh:=⟨(sqs 5 (.slw 0::sqs 62 [])),[some (23,1,.ints .u64)]⟩
def sK (N:Nat):List Atom->K->Bool:=hkT [.is,.is,.i,.i,.is] [0,0,0,1,1] N λκ y_1 t25 t26 _ _=>mJ N y_1 t25 t26 (λr0=>κ.ext 0 (Ap.build [.ints r0]))
def RH (N:Nat):Nat->Option Ann:=λb_=>cond (b_==2) (some ⟨⟨[1,5,6,7,8,25,26,27,32,33,34],[],[],[]⟩,[(2,⟨[1,5,6,8,25,26,27],[],[],[]⟩)],some ⟨[4],[],[],[]⟩,some (au [(sU,sL N)])⟩) (cond (b_==0) (some ⟨⟨[1,5,25,26,27],[],[],[]⟩,[(0,⟨[5],[],[],[]⟩)],some ⟨[4],[],[],[]⟩,some (au [(sT,sK N)])⟩) (none))
theorem AM (N:Nat):ar (cxL Pg ab N (L44 N)) 0 (RH N) (lp Pg 192 1) (sU,sL N):=ay
theorem AL (N:Nat):ar (cxL Pg ab N (L44 N)) 0 (RH N) (lp Pg 192 0) (sT,sK N):=ay
theorem o45 (N:Nat) (h:OKL Pg ab (L44 N)):OKL Pg ab (L45 N):=h.adT h 1 N (RH N) 2 ⟨az (AL N),az (AM N),trivial⟩
theorem o46 (N:Nat) (h:OKL Pg ab (L45 N)):OKL Pg ab (L46 N):=h.adO 0 N
theorem o47 (N:Nat) (h:OKL Pg ab (L46 N)):OKL Pg ab (L47 N):=h.adO 1 N
theorem o48 (N:Nat) (h:OKL Pg ab (L47 N)):OKL Pg ab (L48 N):=h.adO 0 N
theorem o50 (N:Nat) (h:OKL Pg ab (L49 N)):OKL Pg ab (L50 N):=h.adO 0 N
open Classical in
theorem ra (N:Nat):FrF 1 (FS ⟨[.ptr 0 0,.flt],[some (85,1,.cells [.bool,.rof,.int .i64,.int .i64,.rof,.rof,.flt,.flt,.nil,.nil,.flt])]⟩ [.f,.b,.fs,.i,.i,.fs,.fs,.f,.f,.f] ((λS_ c_ x b b_1 b_2 b_3 b_4 b_5 b_6 b_7 b_8=>S_ x b b_1 b_2 b_3 b_4 b_5 b_6 b_7 b_8 (λr1=>c_ (.flt x) [⟨85,1,.cells [.bool r1,.rof b_1,vwi b_2,vwi b_3,.rof b_4,.rof b_5,.flt b_6,.flt b_7,.nil,.nil,.flt b_8]⟩])) (N4 N))):=kI λt k h=>by obtain⟨x,b,b_1,b_2,b_3,b_4,b_5,b_6,b_7,b_8,_⟩:=t;show N4 N x b b_1 b_2 b_3 b_4 b_5 b_6 b_7 b_8 (λr1=>k (.flt x) [⟨85,1,.cells [.bool r1,.rof b_1,vwi b_2,vwi b_3,.rof b_4,.rof b_5,.flt b_6,.flt b_7,.nil,.nil,.flt b_8]⟩]&&decide (FrB 1 [⟨85,1,.cells [.bool b,.rof b_1,vwi b_2,vwi b_3,.rof b_4,.rof b_5,.flt b_6,.flt b_7,.nil,.nil,.flt b_8]⟩] [⟨85,1,.cells [.bool r1,.rof b_1,vwi b_2,vwi b_3,.rof b_4,.rof b_5,.flt b_6,.flt b_7,.nil,.nil,.flt b_8]⟩]))=true;simp only[cP,cQ,decide_true,Bool.and_true];exact h
theorem o51 (N:Nat) (h:OKL Pg ab (L50 N)):OKL Pg ab (L51 N):=h.adF h 0 N (λ_=>none) 0 trivial (ra N)
open Classical in
theorem qk (N:Nat):FrF 1 (FS ⟨[.ptr 0 0,.flt,.flt],[some (85,1,.cells [.bool,.rof,.int .i64,.int .i64,.rof,.rof,.flt,.flt,.nil,.nil,.flt])]⟩ [.f,.f,.b,.fs,.i,.i,.fs,.fs,.f,.f,.f] ((λS_ c_ a b b_1 b_2 b_3 b_4 b_5 b_6 b_7 b_8 b_9=>S_ a b b_1 b_2 b_3 b_4 b_5 b_6 b_7 b_8 b_9 (λr0 r1=>c_ (.flt r0) [⟨85,1,.cells [.bool r1,.rof b_2,vwi b_3,vwi b_4,.rof b_5,.rof b_6,.flt b_7,.flt b_8,.nil,.nil,.flt b_9]⟩])) (TC N))):=kI λt k h=>by obtain⟨a,b,b_1,b_2,b_3,b_4,b_5,b_6,b_7,b_8,b_9,_⟩:=t;show TC N a b b_1 b_2 b_3 b_4 b_5 b_6 b_7 b_8 b_9 (λr0 r1=>k (.flt r0) [⟨85,1,.cells [.bool r1,.rof b_2,vwi b_3,vwi b_4,.rof b_5,.rof b_6,.flt b_7,.flt b_8,.nil,.nil,.flt b_9]⟩]&&decide (FrB 1 [⟨85,1,.cells [.bool b_1,.rof b_2,vwi b_3,vwi b_4,.rof b_5,.rof b_6,.flt b_7,.flt b_8,.nil,.nil,.flt b_9]⟩] [⟨85,1,.cells [.bool r1,.rof b_2,vwi b_3,vwi b_4,.rof b_5,.rof b_6,.flt b_7,.flt b_8,.nil,.nil,.flt b_9]⟩]))=true;simp only[cP,cQ,decide_true,Bool.and_true];exact h
theorem o52 (N:Nat) (h:OKL Pg ab (L51 N)):OKL Pg ab (L52 N):=h.adF h 0 N (λ_=>none) 0 trivial (qk N)
def ft:StSh:=⟨(.ptr 0 0::.any::.rof::sqs 4 (.flt::.any::.any::.rof::.int .i64::.int .i64::sqs 17 [])),[some (85,1,.cells [.bool,.rof,.int .i64,.int .i64,.rof,.rof,.flt,.flt,.nil,.nil,.flt])]⟩
def lW:StSh:=⟨(sqs 7 (.flt::sqs 22 [])),[some (85,1,.cells [.bool,.rof,.int .i64,.int .i64,.rof,.rof,.flt,.flt,.nil,.nil,.flt])]⟩
def fa (N:Nat):List Atom->K->Bool:=hkT [.fs,.f,.fs,.i,.i,.b,.fs,.i,.i,.fs,.fs,.f,.f,.f] [0,1,0,0,1,1,0,0,0,0,0,0,0,0] N λκ acp _ t10 t11 _ _ s_1 s_2 s_3 s_4 s_5 s_6 s_7 s_8=>qe N acp t10 t11 s_1 s_2 s_3 s_4 s_5 s_6 s_7 s_8 (λr0 r1=>κ.ext 0 (lW.build [.fl r0,.bool r1,.fls s_1,.int s_2,.int s_3,.fls s_4,.fls s_5,.fl s_6,.fl s_7,.fl s_8]))
def Rq (N:Nat):Nat->Option Ann:=λb_=>cond (b_==0) (some ⟨⟨[0,2,7,10,11,12],[],[],[]⟩,[(0,⟨[7],[],[],[]⟩)],some ⟨[6],[],[],[]⟩,some (au [(ft,fa N)])⟩) (none)
theorem l_ (N:Nat):ar (cxL Pg ab N (L52 N)) 1 (Rq N) (lp Pg 59 0) (ft,fa N):=ay
open Classical in
theorem qj (N:Nat):FrF 1 (FS ⟨[.ptr 0 0,.rof,.rof],[some (85,1,.cells [.bool,.rof,.int .i64,.int .i64,.rof,.rof,.flt,.flt,.nil,.nil,.flt])]⟩ [.fs,.fs,.b,.fs,.i,.i,.fs,.fs,.f,.f,.f] ((λS_ c_ a b b_1 b_2 b_3 b_4 b_5 b_6 b_7 b_8 b_9=>S_ a b b_1 b_2 b_3 b_4 b_5 b_6 b_7 b_8 b_9 (λr0 r1=>c_ (.flt r0) [⟨85,1,.cells [.bool r1,.rof b_2,vwi b_3,vwi b_4,.rof b_5,.rof b_6,.flt b_7,.flt b_8,.nil,.nil,.flt b_9]⟩])) (WL N))):=kI λt k h=>by obtain⟨a,b,b_1,b_2,b_3,b_4,b_5,b_6,b_7,b_8,b_9,_⟩:=t;show WL N a b b_1 b_2 b_3 b_4 b_5 b_6 b_7 b_8 b_9 (λr0 r1=>k (.flt r0) [⟨85,1,.cells [.bool r1,.rof b_2,vwi b_3,vwi b_4,.rof b_5,.rof b_6,.flt b_7,.flt b_8,.nil,.nil,.flt b_9]⟩]&&decide (FrB 1 [⟨85,1,.cells [.bool b_1,.rof b_2,vwi b_3,vwi b_4,.rof b_5,.rof b_6,.flt b_7,.flt b_8,.nil,.nil,.flt b_9]⟩] [⟨85,1,.cells [.bool r1,.rof b_2,vwi b_3,vwi b_4,.rof b_5,.rof b_6,.flt b_7,.flt b_8,.nil,.nil,.flt b_9]⟩]))=true;simp only[cP,cQ,decide_true,Bool.and_true];exact h
theorem o53 (N:Nat) (h:OKL Pg ab (L52 N)):OKL Pg ab (L53 N):=h.adF h 0 N (Rq N) 1 ⟨az (l_ N),trivial⟩ (qj N)
open Classical in
theorem qm (N:Nat):FrF 1 (FS ⟨[.ptr 0 0,.flt],[some (85,1,.cells [.bool,.rof,.int .i64,.int .i64,.rof,.rof,.flt,.flt,.slw 1,.nil,.flt]),some (33,1,.flts)]⟩ [.f,.b,.fs,.i,.i,.fs,.fs,.f,.f,.f,.fs] ((λS_ c_ x b b_1 b_2 b_3 b_4 b_5 b_6 b_7 b_8 b_9=>S_ x b b_1 b_2 b_3 b_4 b_5 b_6 b_7 b_8 b_9 (λr1=>c_ (.flt x) [⟨85,1,.cells [.bool r1,.rof b_1,vwi b_2,vwi b_3,.rof b_4,.rof b_5,.flt b_6,.flt b_7,.slw 1,.nil,.flt b_8]⟩,⟨33,1,.flts b_9⟩])) (FI N))):=kI λt k h=>by obtain⟨x,b,b_1,b_2,b_3,b_4,b_5,b_6,b_7,b_8,b_9,_⟩:=t;show FI N x b b_1 b_2 b_3 b_4 b_5 b_6 b_7 b_8 b_9 (λr1=>k (.flt x) [⟨85,1,.cells [.bool r1,.rof b_1,vwi b_2,vwi b_3,.rof b_4,.rof b_5,.flt b_6,.flt b_7,.slw 1,.nil,.flt b_8]⟩,⟨33,1,.flts b_9⟩]&&decide (FrB 1 [⟨85,1,.cells [.bool b,.rof b_1,vwi b_2,vwi b_3,.rof b_4,.rof b_5,.flt b_6,.flt b_7,.slw 1,.nil,.flt b_8]⟩,⟨33,1,.flts b_9⟩] [⟨85,1,.cells [.bool r1,.rof b_1,vwi b_2,vwi b_3,.rof b_4,.rof b_5,.flt b_6,.flt b_7,.slw 1,.nil,.flt b_8]⟩,⟨33,1,.flts b_9⟩]))=true;simp only[cP,cQ,decide_true,Bool.and_true];exact h
theorem o54 (N:Nat) (h:OKL Pg ab (L53 N)):OKL Pg ab (L54 N):=h.aoF h 0 N (λ_=>none) 0 trivial (qm N)
open Classical in
theorem pp (N:Nat):FrF 1 (FS ⟨[.ptr 0 0,.flt,.flt],[some (85,1,.cells [.bool,.rof,.int .i64,.int .i64,.rof,.rof,.flt,.flt,.slw 1,.nil,.flt]),some (33,1,.flts)]⟩ [.f,.f,.b,.fs,.i,.i,.fs,.fs,.f,.f,.f,.fs] ((λS_ c_ a b b_1 b_2 b_3 b_4 b_5 b_6 b_7 b_8 b_9 acp=>S_ a b b_1 b_2 b_3 b_4 b_5 b_6 b_7 b_8 b_9 acp (λr0 r1=>c_ (.flt r0) [⟨85,1,.cells [.bool r1,.rof b_2,vwi b_3,vwi b_4,.rof b_5,.rof b_6,.flt b_7,.flt b_8,.slw 1,.nil,.flt b_9]⟩,⟨33,1,.flts acp⟩])) (PO N))):=kI λt k h=>by obtain⟨a,b,b_1,b_2,b_3,b_4,b_5,b_6,b_7,b_8,b_9,acp,_⟩:=t;show PO N a b b_1 b_2 b_3 b_4 b_5 b_6 b_7 b_8 b_9 acp (λr0 r1=>k (.flt r0) [⟨85,1,.cells [.bool r1,.rof b_2,vwi b_3,vwi b_4,.rof b_5,.rof b_6,.flt b_7,.flt b_8,.slw 1,.nil,.flt b_9]⟩,⟨33,1,.flts acp⟩]&&decide (FrB 1 [⟨85,1,.cells [.bool b_1,.rof b_2,vwi b_3,vwi b_4,.rof b_5,.rof b_6,.flt b_7,.flt b_8,.slw 1,.nil,.flt b_9]⟩,⟨33,1,.flts acp⟩] [⟨85,1,.cells [.bool r1,.rof b_2,vwi b_3,vwi b_4,.rof b_5,.rof b_6,.flt b_7,.flt b_8,.slw 1,.nil,.flt b_9]⟩,⟨33,1,.flts acp⟩]))=true;simp only[cP,cQ,decide_true,Bool.and_true];exact h
theorem o55 (N:Nat) (h:OKL Pg ab (L54 N)):OKL Pg ab (L55 N):=h.aoF h 0 N (λ_=>none) 0 trivial (pp N)
def eO:StSh:=⟨(.ptr 0 0::.any::.rof::sqs 4 (.flt::.any::.any::.rof::.int .i64::.int .i64::sqs 17 [])),[some (85,1,.cells [.bool,.rof,.int .i64,.int .i64,.rof,.rof,.flt,.flt,.slw 1,.nil,.flt]),some (33,1,.flts)]⟩
def lE:StSh:=⟨(sqs 7 (.flt::sqs 22 [])),[some (85,1,.cells [.bool,.rof,.int .i64,.int .i64,.rof,.rof,.flt,.flt,.slw 1,.nil,.flt]),some (33,1,.flts)]⟩
def eK (N:Nat):List Atom->K->Bool:=hkT [.fs,.f,.fs,.i,.i,.b,.fs,.i,.i,.fs,.fs,.f,.f,.f,.fs] [0,1,0,0,1,1,0,0,0,0,0,0,0,0,0] N λκ acI _ t10 t11 _ _ s_1 s_2 s_3 s_4 s_5 s_6 s_7 s_8 b1=>H7 N acI t10 t11 s_1 s_2 s_3 s_4 s_5 s_6 s_7 s_8 b1 (λr0 r1=>κ.ext 0 (lE.build [.fl r0,.bool r1,.fls s_1,.int s_2,.int s_3,.fls s_4,.fls s_5,.fl s_6,.fl s_7,.fl s_8,.fls b1]))
def Wg (N:Nat):Nat->Option Ann:=λb_=>cond (b_==0) (some ⟨⟨[0,2,7,10,11,12],[],[],[]⟩,[(0,⟨[7],[],[],[]⟩)],some ⟨[6],[],[],[]⟩,some (au [(eO,eK N)])⟩) (none)
theorem lU (N:Nat):ar (cxL Pg ab N (L55 N)) 2 (Wg N) (lp Pg 59 0) (eO,eK N):=ay
open Classical in
theorem po (N:Nat):FrF 1 (FS ⟨[.ptr 0 0,.rof,.rof],[some (85,1,.cells [.bool,.rof,.int .i64,.int .i64,.rof,.rof,.flt,.flt,.slw 1,.nil,.flt]),some (33,1,.flts)]⟩ [.fs,.fs,.b,.fs,.i,.i,.fs,.fs,.f,.f,.f,.fs] ((λS_ c_ a b b_1 b_2 b_3 b_4 b_5 b_6 b_7 b_8 b_9 acp=>S_ a b b_1 b_2 b_3 b_4 b_5 b_6 b_7 b_8 b_9 acp (λr0 r1=>c_ (.flt r0) [⟨85,1,.cells [.bool r1,.rof b_2,vwi b_3,vwi b_4,.rof b_5,.rof b_6,.flt b_7,.flt b_8,.slw 1,.nil,.flt b_9]⟩,⟨33,1,.flts acp⟩])) (PM N))):=kI λt k h=>by obtain⟨a,b,b_1,b_2,b_3,b_4,b_5,b_6,b_7,b_8,b_9,acp,_⟩:=t;show PM N a b b_1 b_2 b_3 b_4 b_5 b_6 b_7 b_8 b_9 acp (λr0 r1=>k (.flt r0) [⟨85,1,.cells [.bool r1,.rof b_2,vwi b_3,vwi b_4,.rof b_5,.rof b_6,.flt b_7,.flt b_8,.slw 1,.nil,.flt b_9]⟩,⟨33,1,.flts acp⟩]&&decide (FrB 1 [⟨85,1,.cells [.bool b_1,.rof b_2,vwi b_3,vwi b_4,.rof b_5,.rof b_6,.flt b_7,.flt b_8,.slw 1,.nil,.flt b_9]⟩,⟨33,1,.flts acp⟩] [⟨85,1,.cells [.bool r1,.rof b_2,vwi b_3,vwi b_4,.rof b_5,.rof b_6,.flt b_7,.flt b_8,.slw 1,.nil,.flt b_9]⟩,⟨33,1,.flts acp⟩]))=true;simp only[cP,cQ,decide_true,Bool.and_true];exact h
theorem o56 (N:Nat) (h:OKL Pg ab (L55 N)):OKL Pg ab (L56 N):=h.aoF h 0 N (Wg N) 1 ⟨az (lU N),trivial⟩ (po N)
def dS:StSh:=⟨(.ptr 0 0::.any::.slw 1::sqs 4 (.flt::.any::.any::.rof::.int .i64::.int .i64::sqs 17 [])),[some (85,1,.cells [.bool,.rof,.int .i64,.int .i64,.rof,.rof,.flt,.flt,.slw 1,.nil,.flt]),some (33,1,.flts)]⟩
def kv:StSh:=⟨(sqs 7 (.flt::sqs 22 [])),[some (85,1,.cells [.bool,.rof,.int .i64,.int .i64,.rof,.rof,.flt,.flt,.slw 1,.nil,.flt]),some (33,1,.flts)]⟩
def dM (N:Nat):List Atom->K->Bool:=hkT [.f,.fs,.i,.i,.b,.fs,.i,.i,.fs,.fs,.f,.f,.f,.fs] [1,0,0,1,1,0,0,0,0,0,0,0,0,0] N λκ _ t10 t11 _ _ s_1 s_2 s_3 s_4 s_5 s_6 s_7 s_8 acp=>H3 N t10 t11 s_1 s_2 s_3 s_4 s_5 s_6 s_7 s_8 acp (λr0 r1=>κ.ext 0 (kv.build [.fl r0,.bool r1,.fls s_1,.int s_2,.int s_3,.fls s_4,.fls s_5,.fl s_6,.fl s_7,.fl s_8,.fls acp]))
def We (N:Nat):Nat->Option Ann:=λb_=>cond (b_==0) (some ⟨⟨[0,2,7,10,11,12],[],[],[]⟩,[(0,⟨[7],[],[],[]⟩)],some ⟨[6],[],[],[]⟩,some (au [(dS,dM N)])⟩) (none)
theorem kJ (N:Nat):ar (cxL Pg ab N (L56 N)) 2 (We N) (lp Pg 59 0) (dS,dM N):=ay
open Classical in
theorem nF (N:Nat):FrF 1 (FS ⟨[.ptr 0 0,.rof,.slw 1],[some (85,1,.cells [.bool,.rof,.int .i64,.int .i64,.rof,.rof,.flt,.flt,.slw 1,.nil,.flt]),some (33,1,.flts)]⟩ [.fs,.b,.fs,.i,.i,.fs,.fs,.f,.f,.f,.fs] ((λS_ c_ a b b_1 b_2 b_3 b_4 b_5 b_6 b_7 b_8 b_9=>S_ a b b_1 b_2 b_3 b_4 b_5 b_6 b_7 b_8 b_9 (λr0 r1=>c_ (.flt r0) [⟨85,1,.cells [.bool r1,.rof b_1,vwi b_2,vwi b_3,.rof b_4,.rof b_5,.flt b_6,.flt b_7,.slw 1,.nil,.flt b_8]⟩,⟨33,1,.flts b_9⟩])) (TL N))):=kI λt k h=>by obtain⟨a,b,b_1,b_2,b_3,b_4,b_5,b_6,b_7,b_8,b_9,_⟩:=t;show TL N a b b_1 b_2 b_3 b_4 b_5 b_6 b_7 b_8 b_9 (λr0 r1=>k (.flt r0) [⟨85,1,.cells [.bool r1,.rof b_1,vwi b_2,vwi b_3,.rof b_4,.rof b_5,.flt b_6,.flt b_7,.slw 1,.nil,.flt b_8]⟩,⟨33,1,.flts b_9⟩]&&decide (FrB 1 [⟨85,1,.cells [.bool b,.rof b_1,vwi b_2,vwi b_3,.rof b_4,.rof b_5,.flt b_6,.flt b_7,.slw 1,.nil,.flt b_8]⟩,⟨33,1,.flts b_9⟩] [⟨85,1,.cells [.bool r1,.rof b_1,vwi b_2,vwi b_3,.rof b_4,.rof b_5,.flt b_6,.flt b_7,.slw 1,.nil,.flt b_8]⟩,⟨33,1,.flts b_9⟩]))=true;simp only[cP,cQ,decide_true,Bool.and_true];exact h
theorem o57 (N:Nat) (h:OKL Pg ab (L56 N)):OKL Pg ab (L57 N):=h.aoF h 0 N (We N) 1 ⟨az (kJ N),trivial⟩ (nF N)
open Classical in
theorem oB (N:Nat):FrF 2 (FS ⟨[.ptr 0 0],[some (85,1,.cells [.bool,.rof,.int .i64,.int .i64,.rof,.rof,.flt,.flt,.slw 1,.nil,.flt]),some (33,1,.flts)]⟩ [.b,.fs,.i,.i,.fs,.fs,.f,.f,.f,.fs] ((λS_ c_ b b_1 b_2 b_3 b_4 b_5 b_6 b_7 b_8 b_9=>S_ b b_1 b_2 b_3 b_4 b_5 b_6 b_7 b_8 b_9 (c_ (.bool b) [⟨85,1,.cells [.bool b,.rof b_1,vwi b_2,vwi b_3,.rof b_4,.rof b_5,.flt b_6,.flt b_7,.slw 1,.nil,.flt b_8]⟩,⟨33,1,.flts b_9⟩])) (NY N))):=kI λt k h=>by obtain⟨b,b_1,b_2,b_3,b_4,b_5,b_6,b_7,b_8,b_9,_⟩:=t;show NY N b b_1 b_2 b_3 b_4 b_5 b_6 b_7 b_8 b_9 (k (.bool b) [⟨85,1,.cells [.bool b,.rof b_1,vwi b_2,vwi b_3,.rof b_4,.rof b_5,.flt b_6,.flt b_7,.slw 1,.nil,.flt b_8]⟩,⟨33,1,.flts b_9⟩]&&decide (FrB 2 [⟨85,1,.cells [.bool b,.rof b_1,vwi b_2,vwi b_3,.rof b_4,.rof b_5,.flt b_6,.flt b_7,.slw 1,.nil,.flt b_8]⟩,⟨33,1,.flts b_9⟩] [⟨85,1,.cells [.bool b,.rof b_1,vwi b_2,vwi b_3,.rof b_4,.rof b_5,.flt b_6,.flt b_7,.slw 1,.nil,.flt b_8]⟩,⟨33,1,.flts b_9⟩]))=true;simp only[cP,cQ,decide_true,Bool.and_true];exact h
theorem o58 (N:Nat) (h:OKL Pg ab (L57 N)):OKL Pg ab (L58 N):=h.adF h 0 N (λ_=>none) 0 trivial (oB N)
open Classical in
theorem pq (N:Nat):FrF 1 (FS ⟨[.ptr 0 0,.flt],[some (85,1,.cells [.bool,.rof,.int .i64,.int .i64,.rof,.rof,.flt,.flt,.slw 1,.slw 2,.flt]),some (33,1,.flts),some (33,1,.flts)]⟩ [.f,.b,.fs,.i,.i,.fs,.fs,.f,.f,.f,.fs,.fs] ((λS_ c_ x b b_1 b_2 b_3 b_4 b_5 b_6 b_7 b_8 b_9 acp=>S_ x b b_1 b_2 b_3 b_4 b_5 b_6 b_7 b_8 b_9 acp (λr1=>c_ (.flt x) [⟨85,1,.cells [.bool r1,.rof b_1,vwi b_2,vwi b_3,.rof b_4,.rof b_5,.flt b_6,.flt b_7,.slw 1,.slw 2,.flt b_8]⟩,⟨33,1,.flts b_9⟩,⟨33,1,.flts acp⟩])) (z9 N))):=kI λt k h=>by obtain⟨x,b,b_1,b_2,b_3,b_4,b_5,b_6,b_7,b_8,b_9,acp,_⟩:=t;show z9 N x b b_1 b_2 b_3 b_4 b_5 b_6 b_7 b_8 b_9 acp (λr1=>k (.flt x) [⟨85,1,.cells [.bool r1,.rof b_1,vwi b_2,vwi b_3,.rof b_4,.rof b_5,.flt b_6,.flt b_7,.slw 1,.slw 2,.flt b_8]⟩,⟨33,1,.flts b_9⟩,⟨33,1,.flts acp⟩]&&decide (FrB 1 [⟨85,1,.cells [.bool b,.rof b_1,vwi b_2,vwi b_3,.rof b_4,.rof b_5,.flt b_6,.flt b_7,.slw 1,.slw 2,.flt b_8]⟩,⟨33,1,.flts b_9⟩,⟨33,1,.flts acp⟩] [⟨85,1,.cells [.bool r1,.rof b_1,vwi b_2,vwi b_3,.rof b_4,.rof b_5,.flt b_6,.flt b_7,.slw 1,.slw 2,.flt b_8]⟩,⟨33,1,.flts b_9⟩,⟨33,1,.flts acp⟩]))=true;simp only[cP,cQ,decide_true,Bool.and_true];exact h
theorem o59 (N:Nat) (h:OKL Pg ab (L58 N)):OKL Pg ab (L59 N):=h.aoF h 0 N (λ_=>none) 0 trivial (pq N)
open Classical in
theorem oA (N:Nat):FrF 1 (FS ⟨[.ptr 0 0,.flt,.flt],[some (85,1,.cells [.bool,.rof,.int .i64,.int .i64,.rof,.rof,.flt,.flt,.slw 1,.slw 2,.flt]),some (33,1,.flts),some (33,1,.flts)]⟩ [.f,.f,.b,.fs,.i,.i,.fs,.fs,.f,.f,.f,.fs,.fs] ((λS_ c_ a b b_1 b_2 b_3 b_4 b_5 b_6 b_7 b_8 b_9 acp acI=>S_ a b b_1 b_2 b_3 b_4 b_5 b_6 b_7 b_8 b_9 acp acI (λr0 r1=>c_ (.flt r0) [⟨85,1,.cells [.bool r1,.rof b_2,vwi b_3,vwi b_4,.rof b_5,.rof b_6,.flt b_7,.flt b_8,.slw 1,.slw 2,.flt b_9]⟩,⟨33,1,.flts acp⟩,⟨33,1,.flts acI⟩])) (A7 N))):=kI λt k h=>by obtain⟨a,b,b_1,b_2,b_3,b_4,b_5,b_6,b_7,b_8,b_9,acp,acI,_⟩:=t;show A7 N a b b_1 b_2 b_3 b_4 b_5 b_6 b_7 b_8 b_9 acp acI (λr0 r1=>k (.flt r0) [⟨85,1,.cells [.bool r1,.rof b_2,vwi b_3,vwi b_4,.rof b_5,.rof b_6,.flt b_7,.flt b_8,.slw 1,.slw 2,.flt b_9]⟩,⟨33,1,.flts acp⟩,⟨33,1,.flts acI⟩]&&decide (FrB 1 [⟨85,1,.cells [.bool b_1,.rof b_2,vwi b_3,vwi b_4,.rof b_5,.rof b_6,.flt b_7,.flt b_8,.slw 1,.slw 2,.flt b_9]⟩,⟨33,1,.flts acp⟩,⟨33,1,.flts acI⟩] [⟨85,1,.cells [.bool r1,.rof b_2,vwi b_3,vwi b_4,.rof b_5,.rof b_6,.flt b_7,.flt b_8,.slw 1,.slw 2,.flt b_9]⟩,⟨33,1,.flts acp⟩,⟨33,1,.flts acI⟩]))=true;simp only[cP,cQ,decide_true,Bool.and_true];exact h
theorem o60 (N:Nat) (h:OKL Pg ab (L59 N)):OKL Pg ab (L60 N):=h.aoF h 0 N (λ_=>none) 0 trivial (oA N)
theorem o61 (N:Nat) (h:OKL Pg ab (L60 N)):OKL Pg ab (L61 N):=h.aoO 0 N
def rU:StSh:=⟨(.any::.int .i64::.ptr 0 0::.any::.any::.slw 1::sqs 5 (.int .i64::.int .i64::sqs 17 [])),[some (28,1,.cells [.int .i64,.int .i64,.rof]),some (33,1,.flts)]⟩
def yY:StSh:=⟨(sqs 5 (.slw 0::sqs 24 [])),[some (33,1,.flts)]⟩
def rz (N:Nat):List Atom->K->Bool:=hkT [.i,.i,.i,.i,.i,.fs,.fs] [0,0,1,0,0,0,1] N λκ j_1 t11 _ m m_3 m_4 _=>lf N j_1 t11 m m_3 m_4 (λr0=>κ.ext 0 (yY.build [.fls r0]))
def y_ (N:Nat):Nat->Option Ann:=λb_=>cond (b_==0) (some ⟨⟨[1,2,5,11,12],[],[],[]⟩,[(0,⟨[5],[],[],[]⟩)],some ⟨[4],[],[],[]⟩,some (au [(rU,rz N)])⟩) (none)
theorem zT (N:Nat):ar (cxL Pg ab N (L61 N)) 0 (y_ N) (lp Pg 90 0) (rU,rz N):=ay
theorem o62 (N:Nat) (h:OKL Pg ab (L61 N)):OKL Pg ab (L62 N):=h.adT h 0 N (y_ N) 1 ⟨az (zT N),trivial⟩
def di:StSh:=⟨(.ptr 0 0::.any::.slw 2::sqs 4 (.flt::.any::.any::.sl 1::.int .i64::.int .i64::sqs 17 [])),[some (85,1,.cells [.bool,.rof,.int .i64,.int .i64,.rof,.rof,.flt,.flt,.slw 3,.slw 4,.flt]),some (33,1,.flts),some (33,1,.flts),some (33,1,.flts),some (33,1,.flts)]⟩
def iU:StSh:=⟨(sqs 7 (.flt::sqs 22 [])),[some (85,1,.cells [.bool,.rof,.int .i64,.int .i64,.rof,.rof,.flt,.flt,.slw 3,.slw 4,.flt]),some (33,1,.flts),some (33,1,.flts),some (33,1,.flts),some (33,1,.flts)]⟩
def cX (N:Nat):List Atom->K->Bool:=hkT [.f,.n,.n,.i,.i,.b,.fs,.i,.i,.fs,.fs,.f,.f,.f,.fs,.fs,.fs,.fs] [1,0,0,0,1,1,0,0,0,0,0,0,0,0,0,0,0,0] N λκ _ t10 adu t11 _ _ s_1 s_2 s_3 s_4 s_5 s_6 s_7 s_8 ac9 acY b3 b4=>HX N t10 adu t11 s_1 s_2 s_3 s_4 s_5 s_6 s_7 s_8 ac9 acY b3 b4 (λr0 r1=>κ.ext 0 (iU.build [.fl r0,.bool r1,.fls s_1,.int s_2,.int s_3,.fls s_4,.fls s_5,.fl s_6,.fl s_7,.fl s_8,.fls ac9,.fls acY,.fls b3,.fls b4]))
def Wc (N:Nat):Nat->Option Ann:=λb_=>cond (b_==0) (some ⟨⟨[0,2,7,10,11,12],[],[],[]⟩,[(0,⟨[7],[],[],[]⟩)],some ⟨[6],[],[],[]⟩,some (au [(di,cX N)])⟩) (none)
theorem je (N:Nat):ar (cxL Pg ab N (L62 N)) 5 (Wc N) (lp Pg 59 0) (di,cX N):=ay
open Classical in
theorem lT (N:Nat):FrF 1 (FS ⟨[.ptr 0 0,.sl 1,.slw 2],[some (85,1,.cells [.bool,.rof,.int .i64,.int .i64,.rof,.rof,.flt,.flt,.slw 3,.slw 4,.flt]),some (33,1,.flts),some (33,1,.flts),some (33,1,.flts),some (33,1,.flts)]⟩ [.n,.n,.b,.fs,.i,.i,.fs,.fs,.f,.f,.f,.fs,.fs,.fs,.fs] ((λS_ c_ a_0 a_1 b b_1 b_2 b_3 b_4 b_5 b_6 b_7 b_8 b_9 acp acI acR=>S_ a_0 a_1 b b_1 b_2 b_3 b_4 b_5 b_6 b_7 b_8 b_9 acp acI acR (λr0 r1=>c_ (.flt r0) [⟨85,1,.cells [.bool r1,.rof b_1,vwi b_2,vwi b_3,.rof b_4,.rof b_5,.flt b_6,.flt b_7,.slw 3,.slw 4,.flt b_8]⟩,⟨33,1,.flts b_9⟩,⟨33,1,.flts acp⟩,⟨33,1,.flts acI⟩,⟨33,1,.flts acR⟩])) (TK N))):=kI λt k h=>by obtain⟨a_0,a_1,b,b_1,b_2,b_3,b_4,b_5,b_6,b_7,b_8,b_9,acp,acI,acR,_⟩:=t;show TK N a_0 a_1 b b_1 b_2 b_3 b_4 b_5 b_6 b_7 b_8 b_9 acp acI acR (λr0 r1=>k (.flt r0) [⟨85,1,.cells [.bool r1,.rof b_1,vwi b_2,vwi b_3,.rof b_4,.rof b_5,.flt b_6,.flt b_7,.slw 3,.slw 4,.flt b_8]⟩,⟨33,1,.flts b_9⟩,⟨33,1,.flts acp⟩,⟨33,1,.flts acI⟩,⟨33,1,.flts acR⟩]&&decide (FrB 1 [⟨85,1,.cells [.bool b,.rof b_1,vwi b_2,vwi b_3,.rof b_4,.rof b_5,.flt b_6,.flt b_7,.slw 3,.slw 4,.flt b_8]⟩,⟨33,1,.flts b_9⟩,⟨33,1,.flts acp⟩,⟨33,1,.flts acI⟩,⟨33,1,.flts acR⟩] [⟨85,1,.cells [.bool r1,.rof b_1,vwi b_2,vwi b_3,.rof b_4,.rof b_5,.flt b_6,.flt b_7,.slw 3,.slw 4,.flt b_8]⟩,⟨33,1,.flts b_9⟩,⟨33,1,.flts acp⟩,⟨33,1,.flts acI⟩,⟨33,1,.flts acR⟩]))=true;simp only[cP,cQ,decide_true,Bool.and_true];exact h
theorem o63 (N:Nat) (h:OKL Pg ab (L62 N)):OKL Pg ab (L63 N):=h.aoF h 0 N (Wc N) 1 ⟨az (je N),trivial⟩ (lT N)
def eE:StSh:=⟨(.ptr 0 0::.any::.any::.any::.ptr 4 0::.ptr 5 0::.ptr 6 0::.ptr 7 0::.int .i64::sqs 7 (.int .i64::.int .i64::.any::.any::.any::.int .i64::.int .i64::sqs 18 [])),[some (85,1,.cells [.bool,.rof,.int .i64,.int .i64,.rof,.rof,.flt,.flt,.slw 2,.slw 3,.flt]),some (33,1,.flts),some (33,1,.flts),some (33,1,.flts),some (28,1,.cells [.int .i64,.int .i64,.slw 1]),some (28,1,.cells [.int .i64,.int .i64,.rof]),some (28,1,.cells [.int .i64,.int .i64,.nil]),some (28,1,.cells [.int .i64,.int .i64,.slw 8]),some (33,1,.flts)]⟩
def kT:StSh:=⟨(.ptr 0 0::.any::.any::.any::.ptr 4 0::.ptr 5 0::.ptr 6 0::.ptr 7 0::sqs 8 (.int .i64::.int .i64::sqs 23 [])),[some (85,1,.cells [.bool,.rof,.int .i64,.int .i64,.rof,.rof,.flt,.flt,.slw 2,.slw 3,.flt]),some (33,1,.flts),some (33,1,.flts),some (33,1,.flts),some (28,1,.cells [.int .i64,.int .i64,.slw 1]),some (28,1,.cells [.int .i64,.int .i64,.rof]),some (28,1,.cells [.int .i64,.int .i64,.nil]),some (28,1,.cells [.int .i64,.int .i64,.slw 8]),some (33,1,.flts)]⟩
def eh (N:Nat):List Atom->K->Bool:=hkT [.i,.i,.i,.i,.i,.b,.fs,.i,.i,.fs,.fs,.f,.f,.f,.fs,.fs,.fs,.i,.i,.i,.i,.fs,.i,.i,.i,.i,.fs] [0,0,0,0,1,1,0,0,0,0,0,0,0,0,0,0,0,0,0,0,0,0,0,0,0,0,1] N λκ i_1 afe ad2 adk _ _ aex aey aez aeA aeB aeC aeD aeE ady adR afN a_5 a_6 ah0 ah1 ah2 agn ago afb afc _=>bL N i_1 afe ad2 adk aex aey aez aeA aeB aeC aeD aeE ady adR afN a_5 a_6 ah0 ah1 ah2 agn ago afb afc (λr2 r23=>κ.ext 2 (kT.build [.int afe,.int ad2,.bool r2,.fls aex,.int aey,.int aez,.fls aeA,.fls aeB,.fl aeC,.fl aeD,.fl aeE,.fls ady,.fls adR,.fls afN,.int a_5,.int a_6,.int ah0,.int ah1,.fls ah2,.int agn,.int ago,.int afb,.int afc,.fls r23]))
def eD:StSh:=⟨(.ptr 0 0::.any::.any::.any::.ptr 4 0::.ptr 5 0::.ptr 6 0::.ptr 7 0::sqs 8 (.int .i64::.int .i64::sqs 23 [])),[some (85,1,.cells [.bool,.rof,.int .i64,.int .i64,.rof,.rof,.flt,.flt,.slw 2,.slw 3,.flt]),some (33,1,.flts),some (33,1,.flts),some (33,1,.flts),some (28,1,.cells [.int .i64,.int .i64,.slw 1]),some (28,1,.cells [.int .i64,.int .i64,.rof]),some (28,1,.cells [.int .i64,.int .i64,.nil]),some (28,1,.cells [.int .i64,.int .i64,.slw 8]),some (33,1,.flts)]⟩
def kS:StSh:=⟨(sqs 6 (.ptr 4 0::.ptr 5 0::sqs 33 [])),[some (85,1,.cells [.bool,.rof,.int .i64,.int .i64,.rof,.rof,.flt,.flt,.slw 2,.slw 3,.flt]),some (33,1,.flts),some (33,1,.flts),some (33,1,.flts),some (28,1,.cells [.int .i64,.int .i64,.nil]),some (28,1,.cells [.int .i64,.int .i64,.slw 6]),some (33,1,.flts)]⟩
def eg (N:Nat):List Atom->K->Bool:=hkT [.i,.i,.b,.fs,.i,.i,.fs,.fs,.f,.f,.f,.fs,.fs,.fs,.i,.i,.i,.i,.fs,.i,.i,.i,.i,.fs] [0,1,1,0,0,0,0,0,0,0,0,0,0,0,0,0,0,0,0,0,0,0,0,1] N λκ aeN _ _ aeF aeG aeH aeI aeJ aeK aeL aeM ad7 afM afO a_7 a_8 aim ah3 ain afU afV aev aew _=>bK N aeN aeF aeG aeH aeI aeJ aeK aeL aeM ad7 afM afO a_7 a_8 aim ah3 ain afU afV aev aew (λr0 r16=>κ.ext 0 (kS.build [.bool r0,.fls aeF,.int aeG,.int aeH,.fls aeI,.fls aeJ,.fl aeK,.fl aeL,.fl aeM,.fls ad7,.fls afM,.fls afO,.int afU,.int afV,.int aev,.int aew,.fls r16]))
def cU (N:Nat):Nat->Option Ann:=λb_=>cond (b_==2) (some ⟨⟨[0,4,5,6,7,8,16,17,21,22],[(7,some 2,66)],[],[]⟩,[(2,⟨[0,4,5,6,7,16,17],[],[],[]⟩)],some ⟨[6],[],[],[]⟩,some (au [(eE,eh N)])⟩) (cond (b_==0) (some ⟨⟨[0,4,5,6,7,16,17],[(7,some 2,66)],[],[]⟩,[(0,⟨[6,7],[],[],[]⟩)],some ⟨[6],[],[],[]⟩,some (au [(eD,eg N)])⟩) (none))
theorem lm (N:Nat):ar (cxL Pg ab N (L63 N)) 4 (cU N) (lp Pg 61 1) (eE,eh N):=ay
theorem ll (N:Nat):ar (cxL Pg ab N (L63 N)) 4 (cU N) (lp Pg 61 0) (eD,eg N):=ay
theorem o64 (N:Nat) (h:OKL Pg ab (L63 N)):OKL Pg ab (L64 N):=h.adT h 0 N (cU N) 2 ⟨az (ll N),az (lm N),trivial⟩
def dh:StSh:=⟨(.ptr 0 0::.any::.sl 2::sqs 4 (.flt::.any::.any::.sl 1::.int .i64::.int .i64::sqs 17 [])),[some (85,1,.cells [.bool,.rof,.int .i64,.int .i64,.rof,.rof,.flt,.flt,.slw 3,.slw 4,.flt]),some (33,1,.flts),some (33,1,.flts),some (33,1,.flts),some (33,1,.flts)]⟩
def iT:StSh:=⟨(sqs 7 (.flt::sqs 22 [])),[some (85,1,.cells [.bool,.rof,.int .i64,.int .i64,.rof,.rof,.flt,.flt,.slw 3,.slw 4,.flt]),some (33,1,.flts),some (33,1,.flts),some (33,1,.flts),some (33,1,.flts)]⟩
def cW (N:Nat):List Atom->K->Bool:=hkT [.n,.n,.f,.n,.n,.i,.i,.b,.fs,.i,.i,.fs,.fs,.f,.f,.f,.fs,.fs,.fs,.fs] [0,0,1,0,0,0,1,1,0,0,0,0,0,0,0,0,0,0,0,0] N λκ adJ ad_ _ t10 adu t11 _ _ s_1 s_2 s_3 s_4 s_5 s_6 s_7 s_8 ac9 adp b3 b4=>HW N adJ ad_ t10 adu t11 s_1 s_2 s_3 s_4 s_5 s_6 s_7 s_8 ac9 adp b3 b4 (λr0 r1=>κ.ext 0 (iT.build [.fl r0,.bool r1,.fls s_1,.int s_2,.int s_3,.fls s_4,.fls s_5,.fl s_6,.fl s_7,.fl s_8,.fls ac9,.fls adp,.fls b3,.fls b4]))
def Wb (N:Nat):Nat->Option Ann:=λb_=>cond (b_==0) (some ⟨⟨[0,2,7,10,11,12],[],[],[]⟩,[(0,⟨[7],[],[],[]⟩)],some ⟨[6],[],[],[]⟩,some (au [(dh,cW N)])⟩) (none)
theorem jc (N:Nat):ar (cxL Pg ab N (L64 N)) 5 (Wb N) (lp Pg 59 0) (dh,cW N):=ay
open Classical in
theorem lS (N:Nat):FrF 1 (FS ⟨[.ptr 0 0,.sl 1,.sl 2],[some (85,1,.cells [.bool,.rof,.int .i64,.int .i64,.rof,.rof,.flt,.flt,.slw 3,.slw 4,.flt]),some (33,1,.flts),some (33,1,.flts),some (33,1,.flts),some (33,1,.flts)]⟩ [.n,.n,.n,.n,.b,.fs,.i,.i,.fs,.fs,.f,.f,.f,.fs,.fs,.fs,.fs] ((λS_ c_ a_0 a_1 b_0 b_1 b b_2 b_3 b_4 b_5 b_6 b_7 b_8 b_9 acp acI acR acY=>S_ a_0 a_1 b_0 b_1 b b_2 b_3 b_4 b_5 b_6 b_7 b_8 b_9 acp acI acR acY (λr0 r1=>c_ (.flt r0) [⟨85,1,.cells [.bool r1,.rof b_2,vwi b_3,vwi b_4,.rof b_5,.rof b_6,.flt b_7,.flt b_8,.slw 3,.slw 4,.flt b_9]⟩,⟨33,1,.flts acp⟩,⟨33,1,.flts acI⟩,⟨33,1,.flts acR⟩,⟨33,1,.flts acY⟩])) (TJ N))):=kI λt k h=>by obtain⟨a_0,a_1,b_0,b_1,b,b_2,b_3,b_4,b_5,b_6,b_7,b_8,b_9,acp,acI,acR,acY,_⟩:=t;show TJ N a_0 a_1 b_0 b_1 b b_2 b_3 b_4 b_5 b_6 b_7 b_8 b_9 acp acI acR acY (λr0 r1=>k (.flt r0) [⟨85,1,.cells [.bool r1,.rof b_2,vwi b_3,vwi b_4,.rof b_5,.rof b_6,.flt b_7,.flt b_8,.slw 3,.slw 4,.flt b_9]⟩,⟨33,1,.flts acp⟩,⟨33,1,.flts acI⟩,⟨33,1,.flts acR⟩,⟨33,1,.flts acY⟩]&&decide (FrB 1 [⟨85,1,.cells [.bool b,.rof b_2,vwi b_3,vwi b_4,.rof b_5,.rof b_6,.flt b_7,.flt b_8,.slw 3,.slw 4,.flt b_9]⟩,⟨33,1,.flts acp⟩,⟨33,1,.flts acI⟩,⟨33,1,.flts acR⟩,⟨33,1,.flts acY⟩] [⟨85,1,.cells [.bool r1,.rof b_2,vwi b_3,vwi b_4,.rof b_5,.rof b_6,.flt b_7,.flt b_8,.slw 3,.slw 4,.flt b_9]⟩,⟨33,1,.flts acp⟩,⟨33,1,.flts acI⟩,⟨33,1,.flts acR⟩,⟨33,1,.flts acY⟩]))=true;simp only[cP,cQ,decide_true,Bool.and_true];exact h
theorem o65 (N:Nat) (h:OKL Pg ab (L64 N)):OKL Pg ab (L65 N):=h.aoF h 0 N (Wb N) 1 ⟨az (jc N),trivial⟩ (lS N)
theorem o66 (N:Nat) (h:OKL Pg ab (L65 N)):OKL Pg ab (L66 N):=h.adO 0 N
end
noncomputable section
def dk:StSh:=⟨(.int .i64::.fn 80 [.ptr 0 0,.ptr 1 0,.ptr 2 0]::.any::.any::.ptr 8 0::.ptr 9 0::.int .i64::sqs 9 (.int .i64::.int .i64::.any::.any::.any::.int .i64::.int .i64::sqs 27 [])),[some (79,1,.cells [.ptr 3 0]),some (28,1,.cells [.int .i64,.int .i64,.slw 4]),some (28,1,.cells [.int .i64,.int .i64,.slw 5]),some (85,1,.cells [.bool,.rof,.int .i64,.int .i64,.rof,.rof,.flt,.flt,.slw 6,.slw 7,.flt]),some (33,1,.flts),some (33,1,.flts),some (33,1,.flts),some (33,1,.flts),some (28,1,.cells [.int .i64,.int .i64,.nil]),some (28,1,.cells [.int .i64,.int .i64,.slw 10]),some (33,1,.flts)]⟩
def iW:StSh:=⟨(.int .i64::.fn 80 [.ptr 0 0,.ptr 1 0,.ptr 2 0]::.any::.any::.ptr 8 0::.ptr 9 0::sqs 10 (.int .i64::.int .i64::sqs 32 [])),[some (79,1,.cells [.ptr 3 0]),some (28,1,.cells [.int .i64,.int .i64,.slw 4]),some (28,1,.cells [.int .i64,.int .i64,.slw 5]),some (85,1,.cells [.bool,.rof,.int .i64,.int .i64,.rof,.rof,.flt,.flt,.slw 6,.slw 7,.flt]),some (33,1,.flts),some (33,1,.flts),some (33,1,.flts),some (33,1,.flts),some (28,1,.cells [.int .i64,.int .i64,.nil]),some (28,1,.cells [.int .i64,.int .i64,.slw 10]),some (33,1,.flts)]⟩
def cZ (N:Nat):List Atom->K->Bool:=hkT [.i,.i,.i,.i,.i,.i,.i,.i,.i,.i,.b,.fs,.i,.i,.fs,.fs,.f,.f,.f,.fs,.fs,.fs,.fs,.i,.i,.i,.i,.fs] [0,0,0,0,0,1,0,0,0,0,1,0,0,0,0,0,0,0,0,0,0,0,0,0,0,0,0,1] N λκ n_2 i ad0 ad1 t21 _ aeq aer aes aet _ agA agB agC agD agE agF agG agH afi ado ad9 aeS aek ael adj adY _=>bC N n_2 i ad0 ad1 t21 aeq aer aes aet agA agB agC agD agE agF agG agH afi ado ad9 aeS aek ael adj adY (λr7 r24=>κ.ext 2 (iW.build [.int n_2,.int ad0,.int ad1,.int aeq,.int aer,.int aes,.int aet,.bool r7,.fls agA,.int agB,.int agC,.fls agD,.fls agE,.fl agF,.fl agG,.fl agH,.fls afi,.fls ado,.fls ad9,.fls aeS,.int aek,.int ael,.int adj,.int adY,.fls r24]))
def dj:StSh:=⟨(.int .i64::.fn 80 [.ptr 0 0,.ptr 1 0,.ptr 2 0]::.any::.any::.ptr 8 0::.ptr 9 0::sqs 10 (.int .i64::.int .i64::sqs 32 [])),[some (79,1,.cells [.ptr 3 0]),some (28,1,.cells [.int .i64,.int .i64,.slw 4]),some (28,1,.cells [.int .i64,.int .i64,.slw 5]),some (85,1,.cells [.bool,.rof,.int .i64,.int .i64,.rof,.rof,.flt,.flt,.slw 6,.slw 7,.flt]),some (33,1,.flts),some (33,1,.flts),some (33,1,.flts),some (33,1,.flts),some (28,1,.cells [.int .i64,.int .i64,.nil]),some (28,1,.cells [.int .i64,.int .i64,.slw 10]),some (33,1,.flts)]⟩
def iV:StSh:=⟨(sqs 4 (.ptr 8 0::.ptr 9 0::sqs 44 [])),[some (79,1,.cells [.ptr 3 0]),some (28,1,.cells [.int .i64,.int .i64,.slw 4]),some (28,1,.cells [.int .i64,.int .i64,.slw 5]),some (85,1,.cells [.bool,.rof,.int .i64,.int .i64,.rof,.rof,.flt,.flt,.slw 6,.slw 7,.flt]),some (33,1,.flts),some (33,1,.flts),some (33,1,.flts),some (33,1,.flts),some (28,1,.cells [.int .i64,.int .i64,.nil]),some (28,1,.cells [.int .i64,.int .i64,.slw 10]),some (33,1,.flts)]⟩
def cY (N:Nat):List Atom->K->Bool:=hkT [.i,.i,.i,.i,.i,.i,.i,.b,.fs,.i,.i,.fs,.fs,.f,.f,.f,.fs,.fs,.fs,.fs,.i,.i,.i,.i,.fs] [0,0,1,0,0,0,0,1,0,0,0,0,0,0,0,0,0,0,0,0,0,0,0,0,1] N λκ n_1 t16 _ at_ aen aeo aep _ ahU afN afO ahV ahW ahX ahY ahZ b4 b5 b6 b7 t4 aeT out acH _=>bB N n_1 t16 at_ aen aeo aep ahU afN afO ahV ahW ahX ahY ahZ b4 b5 b6 b7 t4 aeT out acH (λr4 r21=>κ.ext 0 (iV.build [.int at_,.int aen,.int aeo,.int aep,.bool r4,.fls ahU,.int afN,.int afO,.fls ahV,.fls ahW,.fl ahX,.fl ahY,.fl ahZ,.fls b4,.fls b5,.fls b6,.fls b7,.int t4,.int aeT,.int out,.int acH,.fls r21]))
def cl (N:Nat):Nat->Option Ann:=λb_=>cond (b_==2) (some ⟨⟨[0,1,4,5,6,16,17,21,22],[],[],[]⟩,[(2,⟨[0,1,4,5,16,17],[],[],[]⟩)],some ⟨[4],[],[],[]⟩,some (au [(dk,cZ N)])⟩) (cond (b_==0) (some ⟨⟨[0,1,4,5,16,17],[],[],[]⟩,[(0,⟨[4,5],[],[],[]⟩)],some ⟨[4],[],[],[]⟩,some (au [(dj,cY N)])⟩) (none))
theorem jg (N:Nat):ar (cxL Pg ab N (L66 N)) 8 (cl N) (lp Pg 62 1) (dk,cZ N):=ay
theorem jf (N:Nat):ar (cxL Pg ab N (L66 N)) 8 (cl N) (lp Pg 62 0) (dj,cY N):=ay
theorem o67 (N:Nat) (h:OKL Pg ab (L66 N)):OKL Pg ab (L67 N):=h.adT h 0 N (cl N) 2 ⟨az (jf N),az (jg N),trivial⟩
def dF:StSh:=⟨(.any::.ptr 3 0::.ptr 4 0::.int .i64::.ptr 5 0::.int .i64::sqs 11 (.int .i64::.int .i64::.any::.any::.int .i64::.int .i64::sqs 49 [])),[some (85,1,.cells [.bool,.rof,.int .i64,.int .i64,.rof,.rof,.flt,.flt,.slw 1,.slw 2,.flt]),some (33,1,.flts),some (33,1,.flts),some (79,1,.cells [.ptr 0 0]),some (28,1,.cells [.int .i64,.int .i64,.nil]),some (28,1,.cells [.int .i64,.int .i64,.slw 6]),some (33,1,.flts)]⟩
def j5:StSh:=⟨(.any::.ptr 3 0::.ptr 4 0::.int .i64::.ptr 5 0::sqs 12 (.int .i64::.int .i64::sqs 53 [])),[some (85,1,.cells [.bool,.rof,.int .i64,.int .i64,.rof,.rof,.flt,.flt,.slw 1,.slw 2,.flt]),some (33,1,.flts),some (33,1,.flts),some (79,1,.cells [.ptr 0 0]),some (28,1,.cells [.int .i64,.int .i64,.nil]),some (28,1,.cells [.int .i64,.int .i64,.slw 6]),some (33,1,.flts)]⟩
def dD (N:Nat):List Atom->K->Bool:=hkT [.i,.i,.i,.i,.i,.i,.b,.fs,.i,.i,.fs,.fs,.f,.f,.f,.fs,.fs,.i,.i,.i,.i,.fs] [0,0,0,0,0,1,1,0,0,0,0,0,0,0,0,0,0,0,0,0,0,1] N λκ n_2 i_1 ad2 ahz adk _ _ ae5 ae6 ae7 ae8 adX ae9 ae_ afa ady adR aiw aix a_4 a_5 _=>bH N n_2 i_1 ad2 ahz adk ae5 ae6 ae7 ae8 adX ae9 ae_ afa ady adR aiw aix a_4 a_5 (λr3 r18=>κ.ext 2 (j5.build [.int n_2,.int ad2,.int ahz,.bool r3,.fls ae5,.int ae6,.int ae7,.fls ae8,.fls adX,.fl ae9,.fl ae_,.fl afa,.fls ady,.fls adR,.int aiw,.int aix,.int a_4,.int a_5,.fls r18]))
def dE:StSh:=⟨(.any::.ptr 3 0::.ptr 4 0::.int .i64::.ptr 5 0::sqs 12 (.int .i64::.int .i64::sqs 53 [])),[some (85,1,.cells [.bool,.rof,.int .i64,.int .i64,.rof,.rof,.flt,.flt,.slw 1,.slw 2,.flt]),some (33,1,.flts),some (33,1,.flts),some (79,1,.cells [.ptr 0 0]),some (28,1,.cells [.int .i64,.int .i64,.nil]),some (28,1,.cells [.int .i64,.int .i64,.slw 6]),some (33,1,.flts)]⟩
def j4:StSh:=⟨(.any::.ptr 3 0::.ptr 4 0::.int .i64::.ptr 5 0::sqs 67 []),[some (85,1,.cells [.bool,.rof,.int .i64,.int .i64,.rof,.rof,.flt,.flt,.slw 1,.slw 2,.flt]),some (33,1,.flts),some (33,1,.flts),some (79,1,.cells [.ptr 0 0]),some (28,1,.cells [.int .i64,.int .i64,.nil]),some (28,1,.cells [.int .i64,.int .i64,.slw 6]),some (33,1,.flts)]⟩
def dC (N:Nat):List Atom->K->Bool:=hkT [.i,.i,.i,.b,.fs,.i,.i,.fs,.fs,.f,.f,.f,.fs,.fs,.i,.i,.i,.i,.fs] [0,0,1,1,0,0,0,0,0,0,0,0,0,0,0,0,0,0,1] N λκ n_3 adn _ _ ags agt agu agv agw agx agy agz ad7 afM ah5 ah6 a_6 a_7 _=>bG N n_3 adn ags agt agu agv agw agx agy agz ad7 afM ah5 ah6 a_6 a_7 (λr1 r16=>κ.ext 0 (j4.build [.int n_3,.bool r1,.fls ags,.int agt,.int agu,.fls agv,.fls agw,.fl agx,.fl agy,.fl agz,.fls ad7,.fls afM,.int ah5,.int ah6,.int a_6,.int a_7,.fls r16]))
def cH (N:Nat):Nat->Option Ann:=λb_=>cond (b_==2) (some ⟨⟨[1,2,3,4,5,17,18,21,22],[(4,some 2,66)],[],[]⟩,[(2,⟨[1,2,3,4,17,18],[],[],[]⟩)],some ⟨[2],[],[],[]⟩,some (au [(dF,dD N)])⟩) (cond (b_==0) (some ⟨⟨[1,2,3,4,17,18],[(4,some 2,66)],[],[]⟩,[(0,⟨[1,2,3,4],[],[],[]⟩)],some ⟨[2],[],[],[]⟩,some (au [(dE,dC N)])⟩) (none))
theorem kn (N:Nat):ar (cxL Pg ab N (L67 N)) 3 (cH N) (lp Pg 43 1) (dF,dD N):=ay
theorem km (N:Nat):ar (cxL Pg ab N (L67 N)) 3 (cH N) (lp Pg 43 0) (dE,dC N):=ay
theorem o68 (N:Nat) (h:OKL Pg ab (L67 N)):OKL Pg ab (L68 N):=h.adT h 0 N (cH N) 2 ⟨az (km N),az (kn N),trivial⟩
open Classical in
theorem nG (N:Nat):FrF 2 (FS ⟨[.ptr 0 0],[some (85,1,.cells [.bool,.rof,.int .i64,.int .i64,.rof,.rof,.flt,.flt,.slw 1,.slw 2,.flt]),some (33,1,.flts),some (33,1,.flts)]⟩ [.b,.fs,.i,.i,.fs,.fs,.f,.f,.f,.fs,.fs] ((λS_ c_ b b_1 b_2 b_3 b_4 b_5 b_6 b_7 b_8 b_9 acp=>S_ b b_1 b_2 b_3 b_4 b_5 b_6 b_7 b_8 b_9 acp (c_ (.bool b) [⟨85,1,.cells [.bool b,.rof b_1,vwi b_2,vwi b_3,.rof b_4,.rof b_5,.flt b_6,.flt b_7,.slw 1,.slw 2,.flt b_8]⟩,⟨33,1,.flts b_9⟩,⟨33,1,.flts acp⟩])) (VC N))):=kI λt k h=>by obtain⟨b,b_1,b_2,b_3,b_4,b_5,b_6,b_7,b_8,b_9,acp,_⟩:=t;show VC N b b_1 b_2 b_3 b_4 b_5 b_6 b_7 b_8 b_9 acp (k (.bool b) [⟨85,1,.cells [.bool b,.rof b_1,vwi b_2,vwi b_3,.rof b_4,.rof b_5,.flt b_6,.flt b_7,.slw 1,.slw 2,.flt b_8]⟩,⟨33,1,.flts b_9⟩,⟨33,1,.flts acp⟩]&&decide (FrB 2 [⟨85,1,.cells [.bool b,.rof b_1,vwi b_2,vwi b_3,.rof b_4,.rof b_5,.flt b_6,.flt b_7,.slw 1,.slw 2,.flt b_8]⟩,⟨33,1,.flts b_9⟩,⟨33,1,.flts acp⟩] [⟨85,1,.cells [.bool b,.rof b_1,vwi b_2,vwi b_3,.rof b_4,.rof b_5,.flt b_6,.flt b_7,.slw 1,.slw 2,.flt b_8]⟩,⟨33,1,.flts b_9⟩,⟨33,1,.flts acp⟩]))=true;simp only[cP,cQ,decide_true,Bool.and_true];exact h
theorem o69 (N:Nat) (h:OKL Pg ab (L68 N)):OKL Pg ab (L69 N):=h.aoF h 0 N (λ_=>none) 0 trivial (nG N)
open Classical in
theorem vY (N:Nat):FrF 1 (FS ⟨[.ptr 0 0,.flt],[some (83,1,.cells [.bool])]⟩ [.f,.b] ((λS_ c_ x b=>S_ x b (λr1=>c_ (.flt x) [⟨83,1,.cells [.bool r1]⟩])) (xv N))):=kI λt k h=>by obtain⟨x,b,_⟩:=t;show xv N x b (λr1=>k (.flt x) [⟨83,1,.cells [.bool r1]⟩]&&decide (FrB 1 [⟨83,1,.cells [.bool b]⟩] [⟨83,1,.cells [.bool r1]⟩]))=true;simp only[cP,cQ,decide_true,Bool.and_true];exact h
theorem o70 (N:Nat) (h:OKL Pg ab (L69 N)):OKL Pg ab (L70 N):=h.aoF h 0 N (λ_=>none) 0 trivial (vY N)
open Classical in
theorem uJ (N:Nat):FrF 1 (FS ⟨[.ptr 0 0,.flt,.flt],[some (83,1,.cells [.bool])]⟩ [.f,.f,.b] ((λS_ c_ a b b_1=>S_ a b b_1 (λr0 r1=>c_ (.flt r0) [⟨83,1,.cells [.bool r1]⟩])) (EX N))):=kI λt k h=>by obtain⟨a,b,b_1,_⟩:=t;show EX N a b b_1 (λr0 r1=>k (.flt r0) [⟨83,1,.cells [.bool r1]⟩]&&decide (FrB 1 [⟨83,1,.cells [.bool b_1]⟩] [⟨83,1,.cells [.bool r1]⟩]))=true;simp only[cP,cQ,decide_true,Bool.and_true];exact h
theorem o71 (N:Nat) (h:OKL Pg ab (L70 N)):OKL Pg ab (L71 N):=h.aoF h 0 N (λ_=>none) 0 trivial (uJ N)
def iM:StSh:=⟨(.ptr 0 0::.any::.rof::sqs 4 (.flt::.any::.any::.rof::.int .i64::.int .i64::sqs 17 [])),[some (83,1,.cells [.bool])]⟩
def pL:StSh:=⟨(sqs 7 (.flt::sqs 22 [])),[some (83,1,.cells [.bool])]⟩
def iz (N:Nat):List Atom->K->Bool:=hkT [.fs,.f,.fs,.i,.i,.b] [0,1,0,0,1,1] N λκ b_2 _ t10 t11 _ _=>mL N b_2 t10 t11 (λr0 r1=>κ.ext 0 (pL.build [.fl r0,.bool r1]))
def Rx (N:Nat):Nat->Option Ann:=λb_=>cond (b_==0) (some ⟨⟨[0,2,7,10,11,12],[],[],[]⟩,[(0,⟨[7],[],[],[]⟩)],some ⟨[6],[],[],[]⟩,some (au [(iM,iz N)])⟩) (none)
theorem qz (N:Nat):ar (cxL Pg ab N (L71 N)) 1 (Rx N) (lp Pg 59 0) (iM,iz N):=ay
open Classical in
theorem uI (N:Nat):FrF 1 (FS ⟨[.ptr 0 0,.rof,.rof],[some (83,1,.cells [.bool])]⟩ [.fs,.fs,.b] ((λS_ c_ a b b_1=>S_ a b b_1 (λr0 r1=>c_ (.flt r0) [⟨83,1,.cells [.bool r1]⟩])) (J9 N))):=kI λt k h=>by obtain⟨a,b,b_1,_⟩:=t;show J9 N a b b_1 (λr0 r1=>k (.flt r0) [⟨83,1,.cells [.bool r1]⟩]&&decide (FrB 1 [⟨83,1,.cells [.bool b_1]⟩] [⟨83,1,.cells [.bool r1]⟩]))=true;simp only[cP,cQ,decide_true,Bool.and_true];exact h
theorem o72 (N:Nat) (h:OKL Pg ab (L71 N)):OKL Pg ab (L72 N):=h.aoF h 0 N (Rx N) 1 ⟨az (qz N),trivial⟩ (uI N)
def gC:StSh:=⟨(.ptr 0 0::.any::.slw 1::sqs 4 (.flt::.any::.any::.rof::.int .i64::.int .i64::sqs 17 [])),[some (83,1,.cells [.bool]),some (33,1,.flts)]⟩
def nY:StSh:=⟨(sqs 7 (.flt::sqs 22 [])),[some (83,1,.cells [.bool]),some (33,1,.flts)]⟩
def gv (N:Nat):List Atom->K->Bool:=hkT [.f,.fs,.i,.i,.b,.fs] [1,0,0,1,1,0] N λκ _ t10 t11 _ _ b_2=>jY N t10 t11 b_2 (λr0 r1=>κ.ext 0 (nY.build [.fl r0,.bool r1,.fls b_2]))
def Rp (N:Nat):Nat->Option Ann:=λb_=>cond (b_==0) (some ⟨⟨[0,2,7,10,11,12],[],[],[]⟩,[(0,⟨[7],[],[],[]⟩)],some ⟨[6],[],[],[]⟩,some (au [(gC,gv N)])⟩) (none)
theorem oG (N:Nat):ar (cxL Pg ab N (L72 N)) 2 (Rp N) (lp Pg 59 0) (gC,gv N):=ay
open Classical in
theorem tc (N:Nat):FrF 1 (FS ⟨[.ptr 0 0,.rof,.slw 1],[some (83,1,.cells [.bool]),some (33,1,.flts)]⟩ [.fs,.b,.fs] ((λS_ c_ a b b_1=>S_ a b b_1 (λr0 r1=>c_ (.flt r0) [⟨83,1,.cells [.bool r1]⟩,⟨33,1,.flts b_1⟩])) (J3 N))):=kI λt k h=>by obtain⟨a,b,b_1,_⟩:=t;show J3 N a b b_1 (λr0 r1=>k (.flt r0) [⟨83,1,.cells [.bool r1]⟩,⟨33,1,.flts b_1⟩]&&decide (FrB 1 [⟨83,1,.cells [.bool b]⟩,⟨33,1,.flts b_1⟩] [⟨83,1,.cells [.bool r1]⟩,⟨33,1,.flts b_1⟩]))=true;simp only[cP,cQ,decide_true,Bool.and_true];exact h
theorem o73 (N:Nat) (h:OKL Pg ab (L72 N)):OKL Pg ab (L73 N):=h.aoF h 0 N (Rp N) 1 ⟨az (oG N),trivial⟩ (tc N)
def kf:StSh:=⟨(.ptr 0 0::.any::.any::.any::.ptr 1 0::.ptr 2 0::.ptr 3 0::.ptr 4 0::.int .i64::sqs 7 (.int .i64::.int .i64::.any::.any::.any::.int .i64::.int .i64::sqs 18 [])),[some (83,1,.cells [.bool]),some (28,1,.cells [.int .i64,.int .i64,.rof]),some (28,1,.cells [.int .i64,.int .i64,.rof]),some (28,1,.cells [.int .i64,.int .i64,.nil]),some (28,1,.cells [.int .i64,.int .i64,.slw 5]),some (33,1,.flts)]⟩
def sb:StSh:=⟨(.ptr 0 0::.any::.any::.any::.ptr 1 0::.ptr 2 0::.ptr 3 0::.ptr 4 0::sqs 8 (.int .i64::.int .i64::sqs 23 [])),[some (83,1,.cells [.bool]),some (28,1,.cells [.int .i64,.int .i64,.rof]),some (28,1,.cells [.int .i64,.int .i64,.rof]),some (28,1,.cells [.int .i64,.int .i64,.nil]),some (28,1,.cells [.int .i64,.int .i64,.slw 5]),some (33,1,.flts)]⟩
def ka (N:Nat):List Atom->K->Bool:=hkT [.i,.i,.i,.i,.i,.b,.i,.i,.fs,.i,.i,.fs,.i,.i,.i,.i,.fs] [0,0,0,0,1,1,0,0,0,0,0,0,0,0,0,0,1] N λκ i_1 afe ad2 adk _ _ a_8 a_9 ahS b_9 acp acI agn ago afb afc _=>dJ N i_1 afe ad2 adk a_8 a_9 ahS b_9 acp acI agn ago afb afc (λr2 r13=>κ.ext 2 (sb.build [.int afe,.int ad2,.bool r2,.int a_8,.int a_9,.fls ahS,.int b_9,.int acp,.fls acI,.int agn,.int ago,.int afb,.int afc,.fls r13]))
def ke:StSh:=⟨(.ptr 0 0::.any::.any::.any::.ptr 1 0::.ptr 2 0::.ptr 3 0::.ptr 4 0::sqs 8 (.int .i64::.int .i64::sqs 23 [])),[some (83,1,.cells [.bool]),some (28,1,.cells [.int .i64,.int .i64,.rof]),some (28,1,.cells [.int .i64,.int .i64,.rof]),some (28,1,.cells [.int .i64,.int .i64,.nil]),some (28,1,.cells [.int .i64,.int .i64,.slw 5]),some (33,1,.flts)]⟩
def sa:StSh:=⟨(sqs 6 (.ptr 1 0::.ptr 2 0::sqs 33 [])),[some (83,1,.cells [.bool]),some (28,1,.cells [.int .i64,.int .i64,.nil]),some (28,1,.cells [.int .i64,.int .i64,.slw 3]),some (33,1,.flts)]⟩
def j_ (N:Nat):List Atom->K->Bool:=hkT [.i,.i,.b,.i,.i,.fs,.i,.i,.fs,.i,.i,.i,.i,.fs] [0,1,1,0,0,0,0,0,0,0,0,0,0,1] N λκ aeN _ _ aii aij aik acR acY adJ afU afV aev aew _=>dI N aeN aii aij aik acR acY adJ afU afV aev aew (λr0 r5=>κ.ext 0 (sa.build [.bool r0,.int afU,.int afV,.int aev,.int aew,.fls r5]))
def iY (N:Nat):Nat->Option Ann:=λb_=>cond (b_==2) (some ⟨⟨[0,4,5,6,7,8,16,17,21,22],[(7,some 2,66)],[],[]⟩,[(2,⟨[0,4,5,6,7,16,17],[],[],[]⟩)],some ⟨[6],[],[],[]⟩,some (au [(kf,ka N)])⟩) (cond (b_==0) (some ⟨⟨[0,4,5,6,7,16,17],[(7,some 2,66)],[],[]⟩,[(0,⟨[6,7],[],[],[]⟩)],some ⟨[6],[],[],[]⟩,some (au [(ke,j_ N)])⟩) (none))
theorem sj (N:Nat):ar (cxL Pg ab N (L73 N)) 1 (iY N) (lp Pg 61 1) (kf,ka N):=ay
theorem si (N:Nat):ar (cxL Pg ab N (L73 N)) 1 (iY N) (lp Pg 61 0) (ke,j_ N):=ay
theorem o74 (N:Nat) (h:OKL Pg ab (L73 N)):OKL Pg ab (L74 N):=h.aoT h 0 N (iY N) 2 ⟨az (si N),az (sj N),trivial⟩
def gB:StSh:=⟨(.ptr 0 0::.any::.rof::sqs 4 (.flt::.any::.any::.sl 1::.int .i64::.int .i64::sqs 17 [])),[some (83,1,.cells [.bool]),some (33,1,.flts)]⟩
def nX:StSh:=⟨(sqs 7 (.flt::sqs 22 [])),[some (83,1,.cells [.bool]),some (33,1,.flts)]⟩
def gu (N:Nat):List Atom->K->Bool:=hkT [.fs,.f,.n,.n,.i,.i,.b,.fs] [0,1,0,0,0,1,1,0] N λκ b_3 _ t10 adu t11 _ _ ac9=>jX N b_3 t10 adu t11 ac9 (λr0 r1=>κ.ext 0 (nX.build [.fl r0,.bool r1,.fls ac9]))
def Ro (N:Nat):Nat->Option Ann:=λb_=>cond (b_==0) (some ⟨⟨[0,2,7,10,11,12],[],[],[]⟩,[(0,⟨[7],[],[],[]⟩)],some ⟨[6],[],[],[]⟩,some (au [(gB,gu N)])⟩) (none)
theorem oF (N:Nat):ar (cxL Pg ab N (L74 N)) 2 (Ro N) (lp Pg 59 0) (gB,gu N):=ay
open Classical in
theorem ta (N:Nat):FrF 1 (FS ⟨[.ptr 0 0,.sl 1,.rof],[some (83,1,.cells [.bool]),some (33,1,.flts)]⟩ [.n,.n,.fs,.b,.fs] ((λS_ c_ a_0 a_1 b b_1 b_2=>S_ a_0 a_1 b b_1 b_2 (λr0 r1=>c_ (.flt r0) [⟨83,1,.cells [.bool r1]⟩,⟨33,1,.flts b_2⟩])) (J2 N))):=kI λt k h=>by obtain⟨a_0,a_1,b,b_1,b_2,_⟩:=t;show J2 N a_0 a_1 b b_1 b_2 (λr0 r1=>k (.flt r0) [⟨83,1,.cells [.bool r1]⟩,⟨33,1,.flts b_2⟩]&&decide (FrB 1 [⟨83,1,.cells [.bool b_1]⟩,⟨33,1,.flts b_2⟩] [⟨83,1,.cells [.bool r1]⟩,⟨33,1,.flts b_2⟩]))=true;simp only[cP,cQ,decide_true,Bool.and_true];exact h
theorem o75 (N:Nat) (h:OKL Pg ab (L74 N)):OKL Pg ab (L75 N):=h.aoF h 0 N (Ro N) 1 ⟨az (oF N),trivial⟩ (ta N)
theorem o76 (N:Nat) (h:OKL Pg ab (L75 N)):OKL Pg ab (L76 N):=h.adO 0 N
def fU:StSh:=⟨(.int .i64::.fn 63 [.ptr 0 0,.ptr 1 0,.ptr 2 0,.ptr 3 0,.ptr 4 0]::.any::.any::.ptr 7 0::.ptr 8 0::.int .i64::sqs 9 (.int .i64::.int .i64::.any::.any::.any::.int .i64::.int .i64::sqs 27 [])),[some (108,1,.cells [.ptr 5 0]),some (28,1,.cells [.int .i64,.int .i64,.slw 6]),some (28,1,.cells [.int .i64,.int .i64,.rof]),some (28,1,.cells [.int .i64,.int .i64,.rof]),some (3,1,.cells [.int .i64]),some (83,1,.cells [.bool]),some (33,1,.flts),some (28,1,.cells [.int .i64,.int .i64,.nil]),some (28,1,.cells [.int .i64,.int .i64,.slw 9]),some (33,1,.flts)]⟩
def mZ:StSh:=⟨(.int .i64::.fn 63 [.ptr 0 0,.ptr 1 0,.ptr 2 0,.ptr 3 0,.ptr 4 0]::.any::.any::.ptr 7 0::.ptr 8 0::sqs 10 (.int .i64::.int .i64::sqs 32 [])),[some (108,1,.cells [.ptr 5 0]),some (28,1,.cells [.int .i64,.int .i64,.slw 6]),some (28,1,.cells [.int .i64,.int .i64,.rof]),some (28,1,.cells [.int .i64,.int .i64,.rof]),some (3,1,.cells [.int .i64]),some (83,1,.cells [.bool]),some (33,1,.flts),some (28,1,.cells [.int .i64,.int .i64,.nil]),some (28,1,.cells [.int .i64,.int .i64,.slw 9]),some (33,1,.flts)]⟩
def fO (N:Nat):List Atom->K->Bool:=hkT [.i,.i,.i,.i,.i,.i,.i,.i,.i,.i,.fs,.i,.i,.fs,.i,.b,.fs,.i,.i,.i,.i,.fs] [0,0,0,0,0,1,0,0,0,0,0,0,0,0,0,1,0,0,0,0,0,1] N λκ n_2 i ad0 ad1 t21 _ agr afD afE afF afG afH afI afJ afK _ ad9 aek ael adj adY _=>cd N n_2 i ad0 ad1 t21 agr afD afE afF afG afH afI afJ afK ad9 aek ael adj adY (λr12 r18=>κ.ext 2 (mZ.build [.int n_2,.int ad0,.int ad1,.int agr,.int afD,.int afE,.int afF,.fls afG,.int afH,.int afI,.fls afJ,.int afK,.bool r12,.fls ad9,.int aek,.int ael,.int adj,.int adY,.fls r18]))
def fT:StSh:=⟨(.int .i64::.fn 63 [.ptr 0 0,.ptr 1 0,.ptr 2 0,.ptr 3 0,.ptr 4 0]::.any::.any::.ptr 7 0::.ptr 8 0::sqs 10 (.int .i64::.int .i64::sqs 32 [])),[some (108,1,.cells [.ptr 5 0]),some (28,1,.cells [.int .i64,.int .i64,.slw 6]),some (28,1,.cells [.int .i64,.int .i64,.rof]),some (28,1,.cells [.int .i64,.int .i64,.rof]),some (3,1,.cells [.int .i64]),some (83,1,.cells [.bool]),some (33,1,.flts),some (28,1,.cells [.int .i64,.int .i64,.nil]),some (28,1,.cells [.int .i64,.int .i64,.slw 9]),some (33,1,.flts)]⟩
def mY:StSh:=⟨(sqs 4 (.ptr 7 0::.ptr 8 0::sqs 44 [])),[some (108,1,.cells [.ptr 5 0]),some (28,1,.cells [.int .i64,.int .i64,.slw 6]),some (28,1,.cells [.int .i64,.int .i64,.rof]),some (28,1,.cells [.int .i64,.int .i64,.rof]),some (3,1,.cells [.int .i64]),some (83,1,.cells [.bool]),some (33,1,.flts),some (28,1,.cells [.int .i64,.int .i64,.nil]),some (28,1,.cells [.int .i64,.int .i64,.slw 9]),some (33,1,.flts)]⟩
def fN (N:Nat):List Atom->K->Bool:=hkT [.i,.i,.i,.i,.i,.i,.i,.fs,.i,.i,.fs,.i,.b,.fs,.i,.i,.i,.i,.fs] [0,0,1,0,0,0,0,0,0,0,0,0,1,0,0,0,0,0,1] N λκ n_1 t16 _ at_ aen aeo aep aeq aer aes aet agq _ b6 t4 aeT out acH _=>cb N n_1 t16 at_ aen aeo aep aeq aer aes aet agq b6 t4 aeT out acH (λr9 r15=>κ.ext 0 (mY.build [.int at_,.int aen,.int aeo,.int aep,.fls aeq,.int aer,.int aes,.fls aet,.int agq,.bool r9,.fls b6,.int t4,.int aeT,.int out,.int acH,.fls r15]))
def dZ (N:Nat):Nat->Option Ann:=λb_=>cond (b_==2) (some ⟨⟨[0,1,4,5,6,16,17,21,22],[],[],[]⟩,[(2,⟨[0,1,4,5,16,17],[],[],[]⟩)],some ⟨[4],[],[],[]⟩,some (au [(fU,fO N)])⟩) (cond (b_==0) (some ⟨⟨[0,1,4,5,16,17],[],[],[]⟩,[(0,⟨[4,5],[],[],[]⟩)],some ⟨[4],[],[],[]⟩,some (au [(fT,fN N)])⟩) (none))
theorem nk (N:Nat):ar (cxL Pg ab N (L76 N)) 7 (dZ N) (lp Pg 62 1) (fU,fO N):=ay
theorem nj (N:Nat):ar (cxL Pg ab N (L76 N)) 7 (dZ N) (lp Pg 62 0) (fT,fN N):=ay
theorem o77 (N:Nat) (h:OKL Pg ab (L76 N)):OKL Pg ab (L77 N):=h.aoT h 0 N (dZ N) 2 ⟨az (nj N),az (nk N),trivial⟩
open Classical in
theorem tI (N:Nat):FrF 2 (FS ⟨[.ptr 0 0],[some (83,1,.cells [.bool])]⟩ [.b] ((λS_ c_ b=>S_ b (c_ (.bool b) [⟨83,1,.cells [.bool b]⟩])) (N6 N))):=kI λt k h=>by obtain⟨b,_⟩:=t;show N6 N b (k (.bool b) [⟨83,1,.cells [.bool b]⟩]&&decide (FrB 2 [⟨83,1,.cells [.bool b]⟩] [⟨83,1,.cells [.bool b]⟩]))=true;simp only[cP,cQ,decide_true,Bool.and_true];exact h
theorem o78 (N:Nat) (h:OKL Pg ab (L77 N)):OKL Pg ab (L78 N):=h.aoF h 0 N (λ_=>none) 0 trivial (tI N)
def g8:StSh:=⟨(.rof::.rof::sqs 10 (.int .i64::.int .i64::sqs 12 [])),[]⟩
def pb:StSh:=⟨(sqs 4 (.bool::sqs 21 [])),[]⟩
def ph:StSh:=⟨(sqs 26 []),[]⟩
def gN (N:Nat):List Atom->K->Bool:=hkT [.fs,.fs,.i,.i] [0,0,0,1] N λκ a_1 b_1 t12 _=>HV N a_1 b_1 t12 (λr0=>κ.ret (pb.build [.bool r0])) (κ.ext 0 (ph.build []))
def ZA (N:Nat):Nat->Option Ann:=λb_=>cond (b_==0) (some ⟨⟨[0,1,12,13],[],[],[]⟩,[(0,⟨[],[],[],[]⟩)],some ⟨[4],[],[],[]⟩,some (au [(g8,gN N)])⟩) (none)
theorem pu (N:Nat):ar (cxL Pg ab N (L78 N)) 0 (ZA N) (lp Pg 27 0) (g8,gN N):=ay
theorem o79 (N:Nat) (h:OKL Pg ab (L78 N)):OKL Pg ab (L79 N):=h.adT h 0 N (ZA N) 1 ⟨az (pu N),trivial⟩
theorem o80 (N:Nat) (h:OKL Pg ab (L79 N)):OKL Pg ab (L80 N):=h.up (by kernel_rfl)
theorem o81 (N:Nat) (h:OKL Pg ab (L80 N)):OKL Pg ab (L81 N):=h.adO 0 N
theorem o82 (N:Nat) (h:OKL Pg ab (L81 N)):OKL Pg ab (L82 N):=h.adO 0 N
theorem o83 (N:Nat) (h:OKL Pg ab (L82 N)):OKL Pg ab (L83 N):=h.adO 0 N
theorem o84 (N:Nat) (h:OKL Pg ab (L83 N)):OKL Pg ab (L84 N):=h.adO 0 N
def HN:FnSh:=⟨[.flt],[]⟩
def Mb (d_:List V) (u_:List (Option Blk)) (x:Fl) (neg:Bool) (e f:Int):St:=⟨((dq d_ 0)::(dq d_ 1)::.ptr 0 0::(dq d_ 2)::.bool neg::vwi e::vwu f::dqs d_ 3 28 []),[some ⟨198,1,.cells [.bool false,vwu 0,vwi 0]⟩]⟩
theorem Yz (N:Nat) (d_:List V) (u_:List (Option Blk)) (x:Fl) (neg:Bool) (e f:Int) (c_:KV):aB (cxL Pg ab N (L84 N)) 0 (λ_=>none) ((cds Pg 170).drop 6) 0 (Mb d_ u_ x neg e f) (i8 Pg 170 0 c_)=Ij N x neg e f (λr0 r1 r2 r3=>c_ (.tup [.agg [.bool r0,vwu r1,vwi r2],vwi r3]) []):=by kernel_rfl
theorem Ed (N:Nat) (x:Fl) (c_:KV) (κn_:St->Bool):aB (cxL Pg ab N (L84 N)) 0 (λ_=>none) (sg Pg 170 0 6) 0 (st0 Pg 170 (HN.args [.fl x]) []) { (i8 Pg 170 0 c_)with nrm:=κn_ } = (oX N x (λcr nr acl=>cond (nr==2047) (c_ (.tup [.agg [.bool false,vwu 0,vwi 0],vwi 4]) []) (cond (decide (nr>0)) (ah .i64 (nr - 1)&&κn_ (Mb (.flt x::.any::vwi 0::.any::.any::.tup [.bool cr,vwi nr,vwu acl]::.flt x::.tup [.bool cr,vwi nr,vwu acl]::.bool cr::vwi nr::vwu acl::vwi nr::.bool false::.any::vwi nr::.bool true::vwu acl::vwu (IntKind.wrap .u64 (acl+4503599627370496))::vwi nr::vwi (nr - 1)::vqs 11 []) [] x cr (nr - 1) (IntKind.wrap .u64 (acl+4503599627370496)))) (κn_ (Mb (.flt x::.any::vwi 0::.any::.any::.tup [.bool cr,vwi nr,vwu acl]::.flt x::.tup [.bool cr,vwi nr,vwu acl]::.bool cr::vwi nr::vwu acl::vwi nr::.bool false::.any::vwi nr::.bool false::vqs 15 []) [] x cr nr acl))))):=by kernel_rfl
theorem Ej (N:Nat) (x:Fl) (c_:KV):aB (cxL Pg ab N (L84 N)) 0 (λ_=>none) ((cds Pg 170).drop 0) 0 (st0 Pg 170 (HN.args [.fl x]) []) (i8 Pg 170 0 c_)=Ic N x (λr0 r1 r2 r3=>c_ (.tup [.agg [.bool r0,vwu r1,vwi r2],vwi r3]) []):=by rw[bg 0 6 6 rfl];refine(Ed N x c_ _).trans ?_;simp only[Yz];kernel_rfl
theorem Yn (N:Nat) (x:Fl) (c_:KV):ow (cxL Pg ab N (L84 N)) (λ_=>none) 170 (HN.args [.fl x]) [] c_=Ic N x (λr0 r1 r2 r3=>c_ (.tup [.agg [.bool r0,vwu r1,vwi r2],vwi r3]) []):=
 (i6 (by kernel_rfl)).trans (Ej N x c_)
theorem o85 (N:Nat) (h:OKL Pg ab (L84 N)):OKL Pg ab (L85 N):=h.adT h 0 N (λ_=>none) 0 trivial (he:=λt k=>kl (Yn N t.1 k) (by kernel_rfl) (by kernel_rfl))
theorem o86 (N:Nat) (h:OKL Pg ab (L85 N)):OKL Pg ab (L86 N):=h.adO 1 N
theorem o87 (N:Nat) (h:OKL Pg ab (L86 N)):OKL Pg ab (L87 N):=h.adO 1 N
theorem o88 (N:Nat) (h:OKL Pg ab (L87 N)):OKL Pg ab (L88 N):=h.adO 0 N
theorem o89 (N:Nat) (h:OKL Pg ab (L88 N)):OKL Pg ab (L89 N):=h.adO 1 N
def fP:StSh:=⟨(.roi .u32::sqs 4 (.int .i64::.int .u64::.slw 0::.int .i64::sqs 49 [])),[some (195,1,.ints .u32)]⟩
def mU:StSh:=⟨(sqs 7 (.slw 0::sqs 50 [])),[some (195,1,.ints .u32)]⟩
def fJ (N:Nat):List Atom->K->Bool:=hkT [.is,.i,.i,.i,.is] [0,0,0,1,1] N λκ m_1 w s _ _=>rX N m_1 w s (λr0=>κ.ext 0 (mU.build [.ints r0]))
def Wj (N:Nat):Nat->Option Ann:=λb_=>cond (b_==0) (some ⟨⟨[0,5,6,7,8],[],[],[]⟩,[(0,⟨[7],[],[],[]⟩)],some ⟨[4],[],[],[]⟩,some (au [(fP,fJ N)])⟩) (none)
theorem nd (N:Nat):ar (cxL Pg ab N (L89 N)) 0 (Wj N) (lp Pg 181 0) (fP,fJ N):=ay
theorem q90 (N:Nat) (h:OKL Pg ab (L89 N)):OKL Pg ab (M90 N):=h.adT h 0 N (Wj N) 1 ⟨az (nd N),trivial⟩
def jC:StSh:=⟨(.roi .u32::sqs 7 (.int .u64::.nil::.slz 0::sqs 149 [])),[some (195,1,.ints .u32)]⟩
def qJ:StSh:=⟨(sqs 8 (.int .u64::.nil::.slz 0::sqs 149 [])),[some (195,1,.ints .u32)]⟩
def jk (N:Nat):List Atom->K->Bool:=hkT [.is,.i,.n,.is] [0,0,1,1] N λκ a_1 s _ _=>E8 N a_1 s (λr1 r2=>κ.ext 0 (qJ.build [.int s,.nat r1,.ints r2]))
def hI:StSh:=⟨(.roi .u32::sqs 7 (.int .u64::.slz 0::.slz 1::sqs 149 [])),[some (195,1,.ints .u32),some (195,1,.ints .u32)]⟩
def pe:StSh:=⟨(sqs 8 (.int .u64::.slz 0::.slz 1::sqs 149 [])),[some (195,1,.ints .u32),some (195,1,.ints .u32)]⟩
def gR (N:Nat):List Atom->K->Bool:=hkT [.is,.i,.n,.n,.is,.is] [0,0,0,1,0,1] N λκ a_2 s_1 d _ d_1 _=>tu N a_2 s_1 d d_1 (λr2 r4=>κ.ext 0 (pe.build [.int s_1,.nat d,.nat r2,.ints d_1,.ints r4]))
def jE:StSh:=⟨(sqs 8 (.int .u64::.slz 0::.slz 1::.int .i64::.slw 2::.int .u64::.int .i64::.any::.int .u64::.int .u64::sqs 142 [])),[some (195,1,.ints .u32),some (195,1,.ints .u32),some (195,1,.ints .u32)]⟩
def qL:StSh:=⟨(sqs 8 (.int .u64::.slz 0::.slz 1::.int .i64::.slw 2::.int .u64::.int .i64::.any::.int .u64::sqs 143 [])),[some (195,1,.ints .u32),some (195,1,.ints .u32),some (195,1,.ints .u32)]⟩
def jm (N:Nat):List Atom->K->Bool:=hkT [.i,.n,.n,.i,.i,.i,.i,.i,.is,.is,.is] [0,0,0,0,0,0,1,1,0,0,0] N λκ s_5 d_6 aeU n_1 aff j_1 _ _ d_7 ae3 q_1=>tv N s_5 d_6 aeU n_1 aff j_1 d_7 ae3 q_1 (λr6=>κ.ext 4 (qL.build [.int s_5,.nat d_6,.nat aeU,.int n_1,.int aff,.int j_1,.int r6,.ints d_7,.ints ae3,.ints q_1]))
def jD:StSh:=⟨(sqs 8 (.int .u64::.slz 0::.slz 1::.int .i64::.slw 2::.int .u64::.int .i64::sqs 145 [])),[some (195,1,.ints .u32),some (195,1,.ints .u32),some (195,1,.ints .u32)]⟩
def qK:StSh:=⟨(sqs 8 (.int .u64::.any::.slz 0::.int .i64::.slw 1::sqs 147 [])),[some (195,1,.ints .u32),some (195,1,.ints .u32)]⟩
def jl (N:Nat):List Atom->K->Bool:=hkT [.i,.n,.n,.i,.i,.i,.is,.is,.is] [0,0,0,0,0,1,0,1,1] N λκ s_4 d_4 adH n top _ d_5 _ _=>kR N s_4 d_4 adH n top d_5 (λr3 r4=>κ.ext 2 (qK.build [.int s_4,.nat adH,.int n,.ints r3,.ints r4]))
def yZ (N:Nat):Nat->Option Ann:=λb_=>cond (b_==0) (some ⟨⟨[0,8,9,10],[(10,none,390),(10,some 0,0)],[],[]⟩,[(0,⟨[8,9,10],[],[],[]⟩)],some ⟨[4,5],[],[],[]⟩,some (au [(jC,jk N),(hI,gR N)])⟩) (cond (b_==4) (some ⟨⟨[8,9,10,11,12,13,14,16,17],[],[],[]⟩,[(4,⟨[8,9,10,11,12,13,14,16],[],[],[]⟩)],some ⟨[4,5],[],[],[]⟩,some (au [(jE,jm N)])⟩) (cond (b_==2) (some ⟨⟨[8,9,10,11,12,13,14],[],[],[]⟩,[(2,⟨[8,10,11,12],[],[],[]⟩)],some ⟨[4,5],[],[],[]⟩,some (au [(jD,jl N)])⟩) (none)))
theorem rg (N:Nat):ar (cxL Pg ab N (M90 N)) 0 (yZ N) (lp Pg 149 0) (jC,jk N):=ay
theorem pz (N:Nat):ar (cxL Pg ab N (M90 N)) 0 (yZ N) (lp Pg 149 0) (hI,gR N):=ay
theorem ri (N:Nat):ar (cxL Pg ab N (M90 N)) 0 (yZ N) (lp Pg 149 2) (jE,jm N):=ay
theorem rh (N:Nat):ar (cxL Pg ab N (M90 N)) 0 (yZ N) (lp Pg 149 1) (jD,jl N):=ay
def MB:FnSh:=⟨[.roi .u32,.roi .u32],[]⟩
def Md (d_:List V) (u_:List (Option Blk)) (a b:LI) (s_3:Int) (d_2 adm:Nat) (d_3 adW:LI):St:=⟨(dqs d_ 0 8 (vwu s_3::.sl 0 0 d_2::.sl 1 0 adm::dqs d_ 8 149 [])),[some ⟨195,1,.ints .u32 d_3⟩,some ⟨195,1,.ints .u32 adW⟩]⟩
def Ma (d_:List V) (u_:List (Option Blk)) (a b:LI) (s_2:Int) (aee:Nat) (ad3:LI):St:=⟨(dqs d_ 0 8 (vwu s_2::.nil::.sl 0 0 aee::dqs d_ 8 149 [])),[some ⟨195,1,.ints .u32 ad3⟩]⟩
theorem YB (N:Nat) (d_:List V) (u_:List (Option Blk)) (a b:LI) (s_3:Int) (d_2 adm:Nat) (d_3 adW:LI) (c_:KV):aB (cxL Pg ab N (M90 N)) 0 (yZ N) ((cds Pg 149).drop 9) 0 (Md d_ u_ a b s_3 d_2 adm d_3 adW) (gG false Pg 149 0 c_)=M5 N a b s_3 d_2 adm d_3 adW (λr0 r1=>c_ (.tup [vws r0,vws r1]) []):=by kernel_rfl
theorem Yx (N:Nat) (d_:List V) (u_:List (Option Blk)) (a b:LI) (s_2:Int) (aee:Nat) (ad3:LI) (c_:KV):aB (cxL Pg ab N (M90 N)) 0 (yZ N) ((cds Pg 149).drop 9) 0 (Ma d_ u_ a b s_2 aee ad3) (gG false Pg 149 0 c_)=Q0 N a b s_2 aee ad3 (λr0 r1=>c_ (.tup [vws r0,vws r1]) []):=by kernel_rfl
theorem Fy (N:Nat) (a b:LI) (c_:KV) (κn_:St->Bool):aB (cxL Pg ab N (M90 N)) 0 (yZ N) (sg Pg 149 0 9) 0 (st0 Pg 149 (MB.args [.ints a,.ints b]) []) { (gG false Pg 149 0 c_)with nrm:=κn_ } = (Da N a b (λnr=>cond (decide (nr<0)) (decide ((List.length ([]++a))*4<=140737488355328)&&c_ (.tup [.roi .u32 [],vws ([]++a)]) []) (cond (((b.length:Nat):Int)==1) (inR 0 b.length&&Ka N a (b.getD 0 0) (λnsr acl=>tk N [acl] (λmr=>decide ((0+mr)<=(List.length [acl]))&&c_ (.tup [vws nsr,vws (List.take mr (List.drop 0 [acl]))]) []))) (ah .i64 (((b.length:Nat):Int) - 1)&&(inR (((b.length:Nat):Int) - 1) b.length&&Vw N (b.getD (Int.toNat (((b.length:Nat):Int) - 1)) 0) (λacn=>Ke N b (IntKind.wrap .u64 acn) (Ke N a (IntKind.wrap .u64 acn) (al N (E8 N a (IntKind.wrap .u64 acn) (λu_2 u_3=>κn_ (Ma (vqs 157 []) [] a b (IntKind.wrap .u64 acn) u_2 u_3))) (0,[])) (λacL acw=>al N (E8 N a (IntKind.wrap .u64 acn) (λu_4 u_5=>κn_ (Ma (vqs 157 []) [] a b (IntKind.wrap .u64 acn) u_4 u_5))) (acL,acw))) (λacZ ack=>Ke N a (IntKind.wrap .u64 acn) (al N (tu N a (IntKind.wrap .u64 acn) acZ ack (λu_8 u_9=>κn_ (Md (vqs 157 []) [] a b (IntKind.wrap .u64 acn) acZ u_8 ack u_9))) (0,[])) (λae0 acu=>al N (tu N a (IntKind.wrap .u64 acn) acZ ack (λac8 ac_=>κn_ (Md (vqs 157 []) [] a b (IntKind.wrap .u64 acn) acZ ac8 ack ac_))) (ae0,acu))))))))):=by kernel_rfl
theorem FA (N:Nat) (a b:LI) (c_:KV):aB (cxL Pg ab N (M90 N)) 0 (yZ N) ((cds Pg 149).drop 0) 0 (st0 Pg 149 (MB.args [.ints a,.ints b]) []) (gG false Pg 149 0 c_)=KI N a b (λr0 r1=>c_ (.tup [vws r0,vws r1]) []):=by rw[bg 0 9 9 rfl];refine(Fy N a b c_ _).trans ?_;simp only[Yx,YB];kernel_rfl
theorem ZI (N:Nat) (a b:LI) (c_:KV):pR false (cxL Pg ab N (M90 N)) (yZ N) 149 (MB.args [.ints a,.ints b]) [] c_=KI N a b (λr0 r1=>c_ (.tup [vws r0,vws r1]) []):=
 (dL (by kernel_rfl)).trans (FA N a b c_)
theorem o90 (N:Nat) (h:OKL Pg ab (L89 N)):OKL Pg ab (L90 N):=h.adT (q90 N h) 1 N (yZ N) 3 ⟨Sp (rg N) (pz N),az (rh N),az (ri N),trivial⟩ (he:=λt k=>kl (ZI N t.1 t.2.1 k) (by kernel_rfl) (by kernel_rfl))
def g9:StSh:=⟨(.roi .u32::.roi .u32::sqs 77 []),[]⟩
def pc:StSh:=⟨(.roi .u32::.roi .u32::sqs 77 []),[]⟩
def gP (N:Nat):List Atom->K->Bool:=hkT [.is,.is] [1,1] N λκ _ _=>Kt N (λr0 r1=>κ.ext 0 (pc.build [.ints r0,.ints r1]))
def g_:StSh:=⟨(.roi .u32::.roi .u32::sqs 77 []),[]⟩
def pd:StSh:=⟨(.roi .u32::sqs 78 []),[]⟩
def gQ (N:Nat):List Atom->K->Bool:=hkT [.is,.is] [1,1] N λκ _ _=>B4 N (λr0=>κ.ext 2 (pd.build [.ints r0]))
def DH (N:Nat):Nat->Option Ann:=λb_=>cond (b_==0) (some ⟨⟨[0,1],[],[],[]⟩,[(0,⟨[0,1],[],[],[]⟩)],some ⟨[4],[],[],[]⟩,some (au [(g9,gP N)])⟩) (cond (b_==2) (some ⟨⟨[0,1],[],[],[]⟩,[(2,⟨[0],[],[],[]⟩)],some ⟨[4],[],[],[]⟩,some (au [(g_,gQ N)])⟩) (none))
theorem pw (N:Nat):ar (cxL Pg ab N (L90 N)) 0 (DH N) (lp Pg 147 0) (g9,gP N):=ay
theorem px (N:Nat):ar (cxL Pg ab N (L90 N)) 0 (DH N) (lp Pg 147 1) (g_,gQ N):=ay
def MD:FnSh:=⟨[.roi .u32,.roi .u32],[]⟩
def SY (d_:List V) (u_:List (Option Blk)) (a b a_1 b_1:LI):St:=⟨(vws a_1::vws b_1::dqs d_ 0 77 []),[]⟩
theorem aai (N:Nat) (d_:List V) (u_:List (Option Blk)) (a b a_1 b_1:LI) (c_:KV):aB (cxL Pg ab N (L90 N)) 0 (DH N) ((cds Pg 147).drop 3) 0 (SY d_ u_ a b a_1 b_1) (gG false Pg 147 0 c_)=Q4 N a b a_1 b_1 (λr0=>c_ (vws r0) []):=by kernel_rfl
theorem C0 (N:Nat) (a b:LI) (c_:KV) (κn_:St->Bool):aB (cxL Pg ab N (L90 N)) 0 (DH N) (sg Pg 147 0 3) 0 (st0 Pg 147 (MD.args [.ints a,.ints b]) []) { (gG false Pg 147 0 c_)with nrm:=κn_ } = (Da N a b (λnr=>cond (decide (nr<0)) (κn_ (SY (.any::.any::.nil::vws a::vqs 11 (vws a::vws b::vwi nr::.bool true::vws a::vws b::vws a::vqs 55 [])) [] a b b a)) (κn_ (SY (.any::.any::.nil::vqs 12 (vws a::vws b::vwi nr::.bool false::vqs 58 [])) [] a b a b)))):=by kernel_rfl
theorem C3 (N:Nat) (a b:LI) (c_:KV):aB (cxL Pg ab N (L90 N)) 0 (DH N) ((cds Pg 147).drop 0) 0 (st0 Pg 147 (MD.args [.ints a,.ints b]) []) (gG false Pg 147 0 c_)=QV N a b (λr0=>c_ (vws r0) []):=by rw[bg 0 3 3 rfl];refine(C0 N a b c_ _).trans ?_;simp only[aai];kernel_rfl
theorem ZM (N:Nat) (a b:LI) (c_:KV):pR false (cxL Pg ab N (L90 N)) (DH N) 147 (MD.args [.ints a,.ints b]) [] c_=QV N a b (λr0=>c_ (vws r0) []):=
 (dL (by kernel_rfl)).trans (C3 N a b c_)
theorem o91 (N:Nat) (h:OKL Pg ab (L90 N)):OKL Pg ab (L91 N):=h.adT h 1 N (DH N) 2 ⟨az (pw N),az (px N),trivial⟩ (he:=λt k=>kl (ZM N t.1 t.2.1 k) (by kernel_rfl) (by kernel_rfl))
def My:FnSh:=⟨[.ptr 0 0,.bool,.roi .u32,.roi .u32],[some (153,1,.cells [.bool,.nil,.bool,.nil])]⟩
def Ny (d_:List V) (u_:List (Option Blk)) (neg:Bool) (a b:LI) (b_1 b_2:Bool) (a_1 b_3:LI):St:=⟨(.ptr 0 0::.bool neg::vws a_1::vws b_3::dqs d_ 0 85 []),[some ⟨153,1,.cells [.bool b_1,.nil,.bool b_2,.nil]⟩,(u_.getD 0 none),(u_.getD 1 none)]⟩
def NA (d_:List V) (u_:List (Option Blk)) (neg:Bool) (a b:LI) (b_1 b_2:Bool) (n:Int):St:=⟨(.ptr 0 0::.bool neg::vws a::vws b::dqs d_ 0 6 (.ptr 2 0::vwu n::dqs d_ 6 77 [])),[some ⟨153,1,.cells [.bool b_1,.nil,.bool b_2,.nil]⟩,(u_.getD 0 none),some ⟨151,1,.cells [.bool false,vws b]⟩]⟩
theorem Z5 (N:Nat) (d_:List V) (u_:List (Option Blk)) (neg:Bool) (a b:LI) (b_1 b_2:Bool) (a_1 b_3:LI) (c_:KV):aB (cxL Pg ab N (L91 N)) 1 (λ_=>none) ((cds Pg 127).drop 14) 0 (Ny d_ u_ neg a b b_1 b_2 a_1 b_3) (gG false Pg 127 1 c_)=KJ N neg a b b_1 b_2 a_1 b_3 (λr0 r1 r2 r3=>c_ (.ptr 0 0) [⟨153,1,.cells [.bool r0,vws r1,.bool r2,vws r3]⟩]):=by kernel_rfl
theorem ZX (N:Nat) (d_:List V) (u_:List (Option Blk)) (neg:Bool) (a b:LI) (b_1 b_2:Bool) (n:Int) (c_:KV) (κn_:St->Bool):aB (cxL Pg ab N (L91 N)) 1 (λ_=>none) (sg Pg 127 9 5) 0 (NA d_ u_ neg a b b_1 b_2 n) { (gG false Pg 127 1 c_)with nrm:=κn_ } = (A_ N a n (λacr=>A_ N b n (λacq=>sQ3 N false acq (λacn=>ah .i64 acn&&Kg N false acq (λacC=>ah .i64 (acC - 1)&&cond (acn != (acC - 1)) (Mx N acr acq (λs6=>pZ N (λs7=>Da N s6 s7 (λacP=>cond (acP != 0) (xw N acr s6 (λs8 s9=>xw N acq s6 (λs10 s11=>κn_ (Ny (dqs d_ 0 6 (.ptr 2 0::vwu n::(dq d_ 6)::vws s6::dqs d_ 8 27 (vws a::vwu n::vws acr::vws b::vwu n::vws acq::.ptr 2 0::vws acq::.ptr 2 0::.ptr 2 1::.ptr 2 0::vwu acn::vwi acn::.ptr 2 0::vwi acC::vwi (acC - 1)::.bool true::vws acr::vws acq::vws s6::vws s6::vws s7::vwi acP::.bool true::.tup [vws s8,vws s9]::vws acr::vws s6::.tup [vws s8,vws s9]::vws s8::vws s9::.tup [vws s10,vws s11]::vws acq::vws s6::.tup [vws s10,vws s11]::vws s10::vws s11::dqs d_ 71 12 []))) [(u_.getD 0 none),some ⟨151,1,.cells [.bool false,vws acq]⟩] neg a b b_1 b_2 s8 s10)))) (κn_ (Ny (dqs d_ 0 6 (.ptr 2 0::vwu n::(dq d_ 6)::vws s6::dqs d_ 8 27 (vws a::vwu n::vws acr::vws b::vwu n::vws acq::.ptr 2 0::vws acq::.ptr 2 0::.ptr 2 1::.ptr 2 0::vwu acn::vwi acn::.ptr 2 0::vwi acC::vwi (acC - 1)::.bool true::vws acr::vws acq::vws s6::vws s6::vws s7::vwi acP::.bool false::dqs d_ 59 24 []))) [(u_.getD 0 none),some ⟨151,1,.cells [.bool false,vws acq]⟩] neg a b b_1 b_2 acr acq)))))) (κn_ (Ny (dqs d_ 0 6 (.ptr 2 0::vwu n::dqs d_ 6 29 (vws a::vwu n::vws acr::vws b::vwu n::vws acq::.ptr 2 0::vws acq::.ptr 2 0::.ptr 2 1::.ptr 2 0::vwu acn::vwi acn::.ptr 2 0::vwi acC::vwi (acC - 1)::.bool false::dqs d_ 52 31 []))) [(u_.getD 0 none),some ⟨151,1,.cells [.bool false,vws acq]⟩] neg a b b_1 b_2 acr acq))))))):=by kernel_rfl
theorem Z8 (N:Nat) (d_:List V) (u_:List (Option Blk)) (neg:Bool) (a b:LI) (b_1 b_2:Bool) (n:Int) (c_:KV):aB (cxL Pg ab N (L91 N)) 1 (λ_=>none) ((cds Pg 127).drop 9) 0 (NA d_ u_ neg a b b_1 b_2 n) (gG false Pg 127 1 c_)=Un N neg a b b_1 b_2 n (λr0 r1 r2 r3=>c_ (.ptr 0 0) [⟨153,1,.cells [.bool r0,vws r1,.bool r2,vws r3]⟩]):=by rw[bg 9 5 14 rfl];refine(ZX N d_ u_ neg a b b_1 b_2 n c_ _).trans ?_;simp only[Z5];kernel_rfl
theorem Yt (N:Nat) (neg:Bool) (a b:LI) (b_1 b_2:Bool) (c_:KV) (κn_:St->Bool):aB (cxL Pg ab N (L91 N)) 1 (λ_=>none) (sg Pg 127 0 9) 0 (st0 Pg 127 (My.args [.bool neg,.ints a,.ints b,.bool b_1,.bool b_2]) [⟨153,1,.cells [.bool b_1,.nil,.bool b_2,.nil]⟩]) { (gG false Pg 127 1 c_)with nrm:=κn_ } = (cond (((a.length:Nat):Int)==0) (GF N false [] b_1 b_2 (λcr nsr ack=>pZ N (λacw=>FK N false acw cr nsr b_2 ack (λacs acu=>c_ (.ptr 0 0) [⟨153,1,.cells [.bool cr,vws nsr,.bool acs,vws acu]⟩])))) (sQ3 N false a (λnr=>sQ3 N false b (λacl=>cond (decide (acl<nr)) (κn_ (NA (vqs 4 (.val (.pointer none)::.ptr 1 0::vwu acl::.any::vws a::.agg [.bool false,vws a]::.ptr 1 0::vws b::.agg [.bool false,vws b]::.ptr 2 0::vws a::vwi ((a.length:Nat):Int)::.bool false::vqs 10 (.ptr 1 0::vwu nr::.ptr 2 0::vwu acl::vwu acl::vwu nr::.bool true::vwu acl::vqs 48 []))) [some ⟨151,1,.cells [.bool false,vws a]⟩] neg a b b_1 b_2 acl)) (κn_ (NA (vqs 4 (.val (.pointer none)::.ptr 1 0::vwu acl::.any::vws a::.agg [.bool false,vws a]::.ptr 1 0::vws b::.agg [.bool false,vws b]::.ptr 2 0::vws a::vwi ((a.length:Nat):Int)::.bool false::vqs 10 (.ptr 1 0::vwu nr::.ptr 2 0::vwu acl::vwu acl::vwu nr::.bool false::vqs 49 []))) [some ⟨151,1,.cells [.bool false,vws a]⟩] neg a b b_1 b_2 nr)))))):=by kernel_rfl
theorem YD (N:Nat) (neg:Bool) (a b:LI) (b_1 b_2:Bool) (c_:KV):aB (cxL Pg ab N (L91 N)) 1 (λ_=>none) ((cds Pg 127).drop 0) 0 (st0 Pg 127 (My.args [.bool neg,.ints a,.ints b,.bool b_1,.bool b_2]) [⟨153,1,.cells [.bool b_1,.nil,.bool b_2,.nil]⟩]) (gG false Pg 127 1 c_)=Qd N neg a b b_1 b_2 (λr0 r1 r2 r3=>c_ (.ptr 0 0) [⟨153,1,.cells [.bool r0,vws r1,.bool r2,vws r3]⟩]):=by rw[bg 0 9 9 rfl];refine(Yt N neg a b b_1 b_2 c_ _).trans ?_;simp only[Z8];kernel_rfl
theorem ZF (N:Nat) (neg:Bool) (a b:LI) (b_1 b_2:Bool) (c_:KV):pR false (cxL Pg ab N (L91 N)) (λ_=>none) 127 (My.args [.bool neg,.ints a,.ints b,.bool b_1,.bool b_2]) [⟨153,1,.cells [.bool b_1,.nil,.bool b_2,.nil]⟩] c_=Qd N neg a b b_1 b_2 (λr0 r1 r2 r3=>c_ (.ptr 0 0) [⟨153,1,.cells [.bool r0,vws r1,.bool r2,vws r3]⟩]):=
 (dL (by kernel_rfl)).trans (YD N neg a b b_1 b_2 c_)
theorem o92 (N:Nat) (h:OKL Pg ab (L91 N)):OKL Pg ab (L92 N):=h.adT h 1 N (λ_=>none) 0 trivial (he:=λt k=>kl (ZF N t.1 t.2.1 t.2.2.1 t.2.2.2.1 t.2.2.2.2.1 k) (by kernel_rfl) (by kernel_rfl))
def MF:FnSh:=⟨[.ptr 0 0,.int .i64],[some (151,1,.cells [.bool,.nil])]⟩
def S0 (d_:List V) (u_:List (Option Blk)) (n:Int) (b:Bool) (u:Int):St:=⟨(.ptr 0 0::vwi n::dqs d_ 0 3 (vwu u::dqs d_ 3 12 [])),[some ⟨151,1,.cells [.bool b,.nil]⟩]⟩
theorem aak (N:Nat) (d_:List V) (u_:List (Option Blk)) (n:Int) (b:Bool) (u:Int) (c_:KV):aB (cxL Pg ab N (L92 N)) 1 (λ_=>none) ((cds Pg 200).drop 4) 0 (S0 d_ u_ n b u) (gG false Pg 200 1 c_)=Up N n b u (λr0 r1=>c_ (.ptr 0 0) [⟨151,1,.cells [.bool r0,vws r1]⟩]):=by kernel_rfl
theorem wT (N:Nat) (n:Int) (b:Bool) (c_:KV) (κn_:St->Bool):aB (cxL Pg ab N (L92 N)) 1 (λ_=>none) (sg Pg 200 0 4) 0 (st0 Pg 200 (MF.args [.int n,.bool b]) [⟨151,1,.cells [.bool b,.nil]⟩]) { (gG false Pg 200 1 c_)with nrm:=κn_ } = (cond (decide (n<0)) (κn_ (S0 (.any::.any::.val (.pointer none)::vwi n::vwu (IntKind.wrap .u64 n)::vwi n::.bool true::vwu (IntKind.wrap .u64 n)::vwu (IntKind.wrap .u64 (0 - (IntKind.wrap .u64 n)))::vqs 6 []) [] n b (IntKind.wrap .u64 (0 - (IntKind.wrap .u64 n))))) (κn_ (S0 (.any::.any::.val (.pointer none)::vwi n::vwu (IntKind.wrap .u64 n)::vwi n::.bool false::vqs 8 []) [] n b (IntKind.wrap .u64 n)))):=by kernel_rfl
theorem xb (N:Nat) (n:Int) (b:Bool) (c_:KV):aB (cxL Pg ab N (L92 N)) 1 (λ_=>none) ((cds Pg 200).drop 0) 0 (st0 Pg 200 (MF.args [.int n,.bool b]) [⟨151,1,.cells [.bool b,.nil]⟩]) (gG false Pg 200 1 c_)=QX N n b (λr0 r1=>c_ (.ptr 0 0) [⟨151,1,.cells [.bool r0,vws r1]⟩]):=by rw[bg 0 4 4 rfl];refine(wT N n b c_ _).trans ?_;simp only[aak];kernel_rfl
theorem ZO (N:Nat) (n:Int) (b:Bool) (c_:KV):pR false (cxL Pg ab N (L92 N)) (λ_=>none) 200 (MF.args [.int n,.bool b]) [⟨151,1,.cells [.bool b,.nil]⟩] c_=QX N n b (λr0 r1=>c_ (.ptr 0 0) [⟨151,1,.cells [.bool r0,vws r1]⟩]):=
 (dL (by kernel_rfl)).trans (xb N n b c_)
theorem o93 (N:Nat) (h:OKL Pg ab (L92 N)):OKL Pg ab (L93 N):=h.adT h 1 N (λ_=>none) 0 trivial (he:=λt k=>kl (ZO N t.1 t.2.1 k) (by kernel_rfl) (by kernel_rfl))
open Classical in
theorem qi (N:Nat):FrF 2 (FS ⟨[.rp [.bool,.roi .u32,.bool,.roi .u32] 0],[]⟩ [.b,.is,.b,.is] ((λS_ c_ r_0 r_1 r_2 r_3=>S_ r_0 r_1 r_2 r_3 (λr0=>c_ (vws r0) [])) (J1 N))):=kI λt k h=>by obtain⟨r_0,r_1,r_2,r_3,_⟩:=t;show J1 N r_0 r_1 r_2 r_3 (λr0=>k (vws r0) []&&decide (FrB 2 [] []))=true;simp only[cP,cQ,decide_true,Bool.and_true];exact h
theorem o94 (N:Nat) (h:OKL Pg ab (L93 N)):OKL Pg ab (L94 N):=h.adF h 1 N (λ_=>none) 0 trivial (qi N)
theorem o95 (N:Nat) (h:OKL Pg ab (L94 N)):OKL Pg ab (L95 N):=h.adO 1 N
def eF:StSh:=⟨(.any::.ptr 0 0::.ptr 1 0::.ptr 2 0::sqs 8 (.int .i64::.int .i64::sqs 15 [])),[some (126,1,.cells [.int .i64,.int .i64,.rl RT2]),some (126,1,.cells [.int .i64,.int .i64,.nil]),some (126,1,.cells [.int .i64,.int .i64,.slw 3]),some (146,1,.own 153 RT1)]⟩
def kU:StSh:=⟨(.any::.any::.ptr 0 0::.ptr 1 0::sqs 25 []),[some (126,1,.cells [.int .i64,.int .i64,.nil]),some (126,1,.cells [.int .i64,.int .i64,.slw 2]),some (146,1,.own 153 RT1)]⟩
def ek (N:Nat):List Atom->K->Bool:=hkT [.i,.i,.i,.i,.r RT2,.i,.i,.i,.i,.r RT1] [0,1,0,0,0,0,0,0,0,1] N λκ t12 _ m m_3 m_4 t2 aej t t_1 _=>H6 N t12 m m_3 m_4 t2 aej t t_1 (λr4=>κ.ext 0 (kU.build [.int t2,.int aej,.int t,.int t_1,.recs RT1 r4]))
def Wm (N:Nat):Nat->Option Ann:=λb_=>cond (b_==0) (some ⟨⟨[1,2,3,12,13],[],[],[]⟩,[(0,⟨[2,3],[],[],[]⟩)],some ⟨[2],[],[],[]⟩,some (au [(eF,ek N)])⟩) (none)
theorem lq (N:Nat):ar (cxL Pg ab N (L95 N)) 0 (Wm N) (lp Pg 107 0) (eF,ek N):=ay
theorem o96 (N:Nat) (h:OKL Pg ab (L95 N)):OKL Pg ab (L96 N):=h.adT h 0 N (Wm N) 1 ⟨az (lq N),trivial⟩
open Classical in
theorem l9 (N:Nat):FrF 2 (FS ⟨[.ptr 0 0],[some (153,1,.cells [.bool,.roi .u32,.bool,.roi .u32])]⟩ [.b,.is,.b,.is] ((λS_ c_ b b_1 b_2 b_3=>S_ b b_1 b_2 b_3 (λr0=>c_ (vws r0) [⟨153,1,.cells [.bool b,vws b_1,.bool b_2,vws b_3]⟩])) (C_ N))):=kI λt k h=>by obtain⟨b,b_1,b_2,b_3,_⟩:=t;show C_ N b b_1 b_2 b_3 (λr0=>k (vws r0) [⟨153,1,.cells [.bool b,vws b_1,.bool b_2,vws b_3]⟩]&&decide (FrB 2 [⟨153,1,.cells [.bool b,vws b_1,.bool b_2,vws b_3]⟩] [⟨153,1,.cells [.bool b,vws b_1,.bool b_2,vws b_3]⟩]))=true;simp only[cP,cQ,decide_true,Bool.and_true];exact h
theorem o97 (N:Nat) (h:OKL Pg ab (L96 N)):OKL Pg ab (L97 N):=h.aoF h 1 N (λ_=>none) 0 trivial (l9 N)
theorem o98 (N:Nat) (h:OKL Pg ab (L97 N)):OKL Pg ab (L98 N):=h.adO 1 N
theorem o99 (N:Nat) (h:OKL Pg ab (L98 N)):OKL Pg ab (L99 N):=h.adO 1 N
theorem aa0 (N:Nat) (h:OKL Pg ab (L99 N)):OKL Pg ab (XH N):=h.adO 1 N
theorem aa1 (N:Nat) (h:OKL Pg ab (XH N)):OKL Pg ab (GW N):=h.adO 1 N
end
end Go.Proofs.YteifemaagdeomaaGreatDoor
