/-
  THE MEANINGS, as specifications (written by program).
  Conditions: none.
-/
import Derived.Test.YtldenpmpmifnlaaGreatDoorGp
import Derived.Test.YtldenpmpmifnlaaGreatDoorMachT
import Derived.Test.YtldenpmpmifnlaaGreatDoorProg
set_option linter.unusedSimpArgs false
set_option linter.unusedVariables false
section
namespace Go.Proofs.YtldenpmpmifnlaaGreatDoor
open Go Go.Mach Go.Proofs
set_option maxRecDepth 50000
abbrev KV:=V->List Blk->Bool
abbrev SPT:=List Atom->KV->Bool
noncomputable abbrev Pg:Program:=Tryz.prog
def vqs:Nat → List V → List V
  | 0,t=>t
  | n+1,t=>.any::vqs n t
abbrev vwi (z:Int):V:=.int .i64 z
abbrev vwu (z:Int):V:=.int .u64 z
abbrev vwv (z:Int):V:=.int .u32 z
abbrev vwr (l:LI):V:=.roi .u64 l
abbrev vws (l:LI):V:=.roi .u32 l
theorem bK {p:Nat → Prop} (h:p 0):∀ i,i<1 → p i
 | 0,_=>h
 | _+1,g=>by omega
theorem jV {p:Nat → Prop} (h:p 0) (h1:p 1):∀ i,i<2 → p i
 | 0,_=>h
 | 1,_=>h1
 | _+2,g=>by omega
def sqs:Nat → List Sh → List Sh
 | 0,t=>t
 | n+1,t=>.any::sqs n t
def am:Nat->Bool:=λg=>g==65||g==44||g==121||g==105||g==139||g==150||g==51||g==52||g==56||g==55||g==98||g==85||g==115||g==101||g==86||g==79||g==111||g==146||g==140||g==1000152||g==1000071||g==1000069||g==2000076||g==3000055||g==3000050||g==3000049||g==4000067
def aev:FnSh:=⟨[.fb],[]⟩
def Ys (amN:pL):SPT:=λa_ c_=>match a_ with
 | [.nat a0]=>amN a0 (λr0=>c_ (vwu r0) [])
 | _=>false
abbrev DF (amN:pL):Fs:=aA aev (Ys amN)
def HK:FnSh:=⟨[.litI .i64 0],[]⟩
def FF (al4:kt):SPT:=λa_ c_=>match a_ with
 | []=>al4 (λr0 r1 r2=>c_ (.agg [vwu r0,vwi r1,vwi r2]) [])
 | _=>false
abbrev sk (al4:kt):Fs:=aA HK (FF al4)
def QW:FnSh:=⟨[.agg [.int .u64,.int .i64,.int .i64]],[]⟩
def N3 (anN:ue):SPT:=λa_ c_=>match a_ with
 | [.int f_0,.int f_1,.int f_2]=>anN f_0 f_1 f_2 (λr0=>c_ (vwu r0) [])
 | _=>false
abbrev Gs (anN:ue):Fs:=aA QW (N3 anN)
def Yj:FnSh:=⟨[.agg [.int .u64,.int .i64,.int .i64]],[]⟩
def ZE (aoS:z7):SPT:=λa_ c_=>match a_ with
 | [.int f_0,.int f_1,.int f_2]=>aoS f_0 f_1 f_2 (λr0=>c_ (vwu r0) [])
 | _=>false
abbrev RF (aoS:z7):Fs:=aA Yj (ZE aoS)
def Yi:FnSh:=⟨[.int .u64,.agg [.int .u64,.int .i64,.int .i64]],[]⟩
def ZD (aq9:GV):SPT:=λa_ c_=>match a_ with
 | [.int b,.int f_0,.int f_1,.int f_2]=>aq9 b f_0 f_1 f_2 (λr0=>c_ (.bool r0) [])
 | _=>false
abbrev aaA (aq9:GV):Fs:=aA Yi (ZD aq9)
def X6:FnSh:=⟨[.agg [.int .u64,.int .i64,.int .i64]],[]⟩
def Zp (amL:tm):SPT:=λa_ c_=>match a_ with
 | [.int f_0,.int f_1,.int f_2]=>amL f_0 f_1 f_2 (λr0=>c_ (vwu r0) [])
 | _=>false
abbrev I7 (amL:tm):Fs:=aA X6 (Zp amL)
def Q6:FnSh:=⟨[.agg [.int .u64,.int .i64,.int .i64]],[]⟩
def Od (apM:BC):SPT:=λa_ c_=>match a_ with
 | [.int f_0,.int f_1,.int f_2]=>apM f_0 f_1 f_2 (λr0=>c_ (vwu r0) [])
 | _=>false
abbrev O1 (apM:BC):Fs:=aA Q6 (Od apM)
def XP:FnSh:=⟨[.int .u64,.agg [.int .u64,.int .i64,.int .i64]],[]⟩
def Y6 (aoJ:zX):SPT:=λa_ c_=>match a_ with
 | [.int b,.int f_0,.int f_1,.int f_2]=>aoJ b f_0 f_1 f_2 (λr0=>c_ (vwu r0) [])
 | _=>false
abbrev RA (aoJ:zX):Fs:=aA XP (Y6 aoJ)
def Xv:FnSh:=⟨[.int .u64,.agg [.int .u64,.int .i64,.int .i64]],[]⟩
def YQ (ane:yq):SPT:=λa_ c_=>match a_ with
 | [.int b,.int f_0,.int f_1,.int f_2]=>ane b f_0 f_1 f_2 (λr0 r1 r2=>c_ (.tup [.bool r0,vwi r1,vwu r2]) [])
 | _=>false
abbrev Rx (ane:yq):Fs:=aA Xv (YQ ane)
def Xu:FnSh:=⟨[.int .u64,.agg [.int .u64,.int .i64,.int .i64]],[]⟩
def YP (anc:yp):SPT:=λa_ c_=>match a_ with
 | [.int b,.int f_0,.int f_1,.int f_2]=>anc b f_0 f_1 f_2 (λr0=>c_ (vwi r0) [])
 | _=>false
abbrev Rw (anc:yp):Fs:=aA Xu (YP anc)
def Q2:FnSh:=⟨[.fb],[]⟩
def N9 (atj:LD):SPT:=λa_ c_=>match a_ with
 | [.nat x]=>atj x (λr0=>c_ (vwi r0) [])
 | _=>false
abbrev OW (atj:LD):Fs:=aA Q2 (N9 atj)
def Q3:FnSh:=⟨[.fb,.fb],[]⟩
def N_ (atk:LG):SPT:=λa_ c_=>match a_ with
 | [.nat a,.nat b]=>atk a b (λr0=>c_ (.bool r0) [])
 | _=>false
abbrev OX (atk:LG):Fs:=aA Q3 (N_ atk)
def aeu:FnSh:=⟨[.int .u64],[]⟩
def Yq (alL:jJ):SPT:=λa_ c_=>match a_ with
 | [.int a0]=>alL a0 (λr0=>c_ (.flt r0) [])
 | _=>false
abbrev vR (alL:jJ):Fs:=aA aeu (Yq alL)
def Q8:FnSh:=⟨[.fb],[]⟩
def Of (atl:LH):SPT:=λa_ c_=>match a_ with
 | [.nat x]=>atl x (λr0=>c_ (.flt r0) [])
 | _=>false
abbrev O3 (atl:LH):Fs:=aA Q8 (Of atl)
def X0:FnSh:=⟨[.int .u64],[]⟩
def Zh (ao0:GH):SPT:=λa_ c_=>match a_ with
 | [.int b]=>ao0 b (λr0=>c_ (.flt r0) [])
 | _=>false
abbrev aak (ao0:GH):Fs:=aA X0 (Zh ao0)
def Tl:FnSh:=⟨[.flt],[]⟩
def FG (alW:ku):SPT:=λa_ c_=>match a_ with
 | [.fl x]=>alW x (λr0=>c_ (.flt r0) [])
 | _=>false
abbrev sm (alW:ku):Fs:=aA Tl (FG alW)
def Yn:FnSh:=⟨[.flt,.int .i64],[]⟩
def ZI (ams:qe):SPT:=λa_ c_=>match a_ with
 | [.fl f,.int sign]=>ams f sign (λr0=>c_ (.bool r0) [])
 | _=>false
abbrev F0 (ams:qe):Fs:=aA Yn (ZI ams)
def QV:FnSh:=⟨[.flt],[]⟩
def N2 (amX:yO):SPT:=λa_ c_=>match a_ with
 | [.fl f]=>amX f (λr0=>c_ (.bool r0) [])
 | _=>false
abbrev OP (amX:yO):Fs:=aA QV (N2 amX)
def Yg:FnSh:=⟨[.flt],[]⟩
def ZB (anZ:D6):SPT:=λa_ c_=>match a_ with
 | [.fl x]=>anZ x (λr0 r1=>c_ (.tup [.flt r0,vwi r1]) [])
 | _=>false
abbrev aay (anZ:D6):Fs:=aA Yg (ZB anZ)
def aew:FnSh:=⟨[.flt],[]⟩
def Yt (alY:mo):SPT:=λa_ c_=>match a_ with
 | [.fl a0]=>alY a0 (λr0=>c_ (vwu r0) [])
 | _=>false
abbrev zO (alY:mo):Fs:=aA aew (Yt alY)
def QE:FnSh:=⟨[.flt,.flt],[]⟩
def NI (amU:yK):SPT:=λa_ c_=>match a_ with
 | [.fl f,.fl sign]=>amU f sign (λr0=>c_ (.flt r0) [])
 | _=>false
abbrev Ov (amU:yK):Fs:=aA QE (NI amU)
def tU:FnSh:=⟨[.int .i64],[]⟩
def FH (al1:q9):SPT:=λa_ c_=>match a_ with
 | [.int sign]=>al1 sign (λr0=>c_ (.flt r0) [])
 | _=>false
abbrev Dr (al1:q9):Fs:=aA tU (FH al1)
def AU:FnSh:=⟨[.flt,.int .i64],[]⟩
def Oa (apJ:Bz):SPT:=λa_ c_=>match a_ with
 | [.fl frac,.int exp]=>apJ frac exp (λr0=>c_ (.flt r0) [])
 | _=>false
abbrev OY (apJ:Bz):Fs:=aA AU (Oa apJ)
def Q0:FnSh:=⟨[.flt,.int .i64],[]⟩
def N7 (an2:Bw):SPT:=λa_ c_=>match a_ with
 | [.fl frac,.int exp]=>an2 frac exp (λr0=>c_ (.flt r0) [])
 | _=>false
abbrev OU (an2:Bw):Fs:=aA Q0 (N7 an2)
def QJ:FnSh:=⟨[.int .i64],[]⟩
def NN (aoY:Bf):SPT:=λa_ c_=>match a_ with
 | [.int n]=>aoY n (λr0=>c_ (.bool r0) [])
 | _=>false
abbrev OA (aoY:Bf):Fs:=aA QJ (NN aoY)
def aey:FnSh:=⟨[.flt],[]⟩
def NZ (anH:Br):SPT:=λa_ c_=>match a_ with
 | [.fl x]=>anH x (λr0=>c_ (vwi r0) [])
 | _=>false
abbrev OM (anH:Br):Fs:=aA aey (NZ anH)
def Xy:FnSh:=⟨[.rof],[]⟩
def YU (alV:nz):SPT:=λa_ c_=>match a_ with
 | [.fls l]=>alV l (λr0=>c_ (.bool r0) [])
 | _=>false
abbrev FX (alV:nz):Fs:=aA Xy (YU alV)
def Xi:FnSh:=⟨[.agg [.int .i64,.int .i64,.rof]],[]⟩
def YB (ame:uW):SPT:=λa_ c_=>match a_ with
 | [.int m_0,.int m_1,.fls m_2]=>ame m_0 m_1 m_2 (λr0=>c_ (vwi r0) [])
 | _=>false
abbrev I4 (ame:uW):Fs:=aA Xi (YB ame)
def Yh:FnSh:=⟨[.agg [.int .i64,.int .i64,.rof],.int .i64,.int .i64],[]⟩
def ZC (anP:GU):SPT:=λa_ c_=>match a_ with
 | [.int m_0,.int m_1,.fls m_2,.int i,.int j]=>anP m_0 m_1 m_2 i j (λr0=>c_ (.flt r0) [])
 | _=>false
abbrev aaz (anP:GU):Fs:=aA Yh (ZC anP)
def aex:FnSh:=⟨[.flt,.flt],[]⟩
def NW (amO:Bn):SPT:=λa_ c_=>match a_ with
 | [.fl a,.fl b]=>amO a b (λr0=>c_ (.bool r0) [])
 | _=>false
abbrev OJ (amO:Bn):Fs:=aA aex (NW amO)
def X1:FnSh:=⟨[.agg [.int .i64,.int .i64,.rof]],[]⟩
def Zi (aqY:GI):SPT:=λa_ c_=>match a_ with
 | [.int m_0,.int m_1,.fls m_2]=>aqY m_0 m_1 m_2 (λr0=>c_ (.bool r0) [])
 | _=>false
abbrev aal (aqY:GI):Fs:=aA X1 (Zi aqY)
def qj:FnSh:=⟨[.bool,.int .i64],[]⟩
def nj (ali:aR):SPT:=λa_ c_=>match a_ with
 | [.bool is,.int e]=>ali is e (c_ (.tup []) [])
 | _=>false
abbrev cH (ali:aR):Fs:=aA qj (nj ali)
def IG:FnSh:=⟨[.int .u64],[]⟩
def YD (an3:DO):SPT:=λa_ c_=>match a_ with
 | [.int x]=>an3 x (λr0=>c_ (vwi r0) [])
 | _=>false
abbrev ZV (an3:DO):Fs:=aA IG (YD an3)
def Fy:FnSh:=⟨[.int .u64,.agg [.int .u64,.int .i64,.int .i64]],[]⟩
def Zk (aqZ:GJ):SPT:=λa_ c_=>match a_ with
 | [.int b,.int f_0,.int f_1,.int f_2]=>aqZ b f_0 f_1 f_2 (λr0 r1 r2 r3=>c_ (.tup [.agg [.bool r0,vwu r1,vwi r2],vwi r3]) [])
 | _=>false
abbrev aam (aqZ:GJ):Fs:=aA Fy (Zk aqZ)
def QP:FnSh:=⟨[.flt],[]⟩
def NT (amW:yM):SPT:=λa_ c_=>match a_ with
 | [.fl x]=>amW x (λr0 r1 r2 r3=>c_ (.tup [.agg [.bool r0,vwu r1,vwi r2],vwi r3]) [])
 | _=>false
abbrev OG (amW:yM):Fs:=aA QP (NT amW)
def aeX:FnSh:=⟨[.slw 0],[some (22,1,.ints .u64)]⟩
def agV (SQ2:kH):SPT:=λa_ c_=>match a_ with
 | [.ints b]=>SQ2 b (λr0=>c_ (.sl 0 0 r0) [⟨22,1,.ints .u64 b⟩])
 | _=>false
abbrev FQ2 (SQ2:kH):Fs:=aA aeX (agV SQ2)
def Xn:FnSh:=⟨[.int .u64],[]⟩
def YI (alI:oF):SPT:=λa_ c_=>match a_ with
 | [.int n]=>alI n (λr0=>c_ (vwr r0) [])
 | _=>false
abbrev FU (alI:oF):Fs:=aA Xn (YI alI)
def Xb:FnSh:=⟨[.ptr 0 0,.bool,.roi .u64],[some (138,1,.cells [.bool,.nil])]⟩
def Yu (amJ:oC):SPT:=λa_ c_=>match a_ with
 | [.bool neg,.ints abs,.bool b]=>amJ neg abs b (λr0=>c_ (.ptr 0 0) [⟨138,1,.cells [.bool r0,vwr abs]⟩])
 | _=>false
abbrev C0 (amJ:oC):Fs:=aA Xb (Yu amJ)
def Xm:FnSh:=⟨[.ptr 0 0,.int .u64],[some (138,1,.cells [.bool,.nil])]⟩
def YH (anX:DQ):SPT:=λa_ c_=>match a_ with
 | [.int n,.bool b]=>anX n b (λr0 r1=>c_ (.ptr 0 0) [⟨138,1,.cells [.bool r0,vwr r1]⟩])
 | _=>false
abbrev ZX (anX:DQ):Fs:=aA Xm (YH anX)
def Xd:FnSh:=⟨[.roi .u64],[]⟩
def Yx (alH:jK):SPT:=λa_ c_=>match a_ with
 | [.ints x]=>alH x (λr0=>c_ (vwr r0) [])
 | _=>false
abbrev xV (alH:jK):Fs:=aA Xd (Yx alH)
def Xx:FnSh:=⟨[.ptr 0 0,.bool,.roi .u64],[some (138,1,.cells [.bool,.roi .u64])]⟩
def YT (anO:uY):SPT:=λa_ c_=>match a_ with
 | [.bool neg,.ints abs,.bool b,.ints b_1]=>anO neg abs b b_1 (λr0=>c_ (.ptr 0 0) [⟨138,1,.cells [.bool r0,vwr abs]⟩])
 | _=>false
abbrev I6 (anO:uY):Fs:=aA Xx (YT anO)
def XH:FnSh:=⟨[.ptr 0 0,.ptr 0 0],[some (138,1,.cells [.bool,.roi .u64])]⟩
def Y1 (anY:DV):SPT:=λa_ c_=>match a_ with
 | [.bool b,.ints b_1]=>anY b b_1 (λr0 r1=>c_ (.ptr 0 0) [⟨138,1,.cells [.bool r0,vwr r1]⟩])
 | _=>false
abbrev Z6 (anY:DV):Fs:=aA XH (Y1 anY)
def XS:FnSh:=⟨[.ptr 0 0,.int .i64],[some (138,1,.cells [.bool,.nil])]⟩
def Za (aqT:GC):SPT:=λa_ c_=>match a_ with
 | [.int n,.bool b]=>aqT n b (λr0 r1=>c_ (.ptr 0 0) [⟨138,1,.cells [.bool r0,vwr r1]⟩])
 | _=>false
abbrev aad (aqT:GC):Fs:=aA XS (Za aqT)
def Ya:FnSh:=⟨[.int .i64],[]⟩
def Zv (anf:yu):SPT:=λa_ c_=>match a_ with
 | [.int n]=>anf n (λr0 r1=>c_ (.ptr 0 0) [⟨138,1,.cells [.bool r0,vwr r1]⟩])
 | _=>false
abbrev RC (anf:yu):Fs:=aA Ya (Zv anf)
def QX:FnSh:=⟨[.roi .u64,.int .u64],[]⟩
def N4 (apF:Bt):SPT:=λa_ c_=>match a_ with
 | [.ints x,.int n]=>apF x n (λr0=>c_ (vwr r0) [])
 | _=>false
abbrev OQ (apF:Bt):Fs:=aA QX (N4 apF)
def XC:FnSh:=⟨[.ptr 0 0,.ptr 1 0,.int .u64],[some (138,1,.cells [.bool,.nil]),some (138,1,.cells [.bool,.roi .u64])]⟩
def YW (an6:DT):SPT:=λa_ c_=>match a_ with
 | [.int n,.bool b,.bool b_1,.ints b_2]=>an6 n b b_1 b_2 (λr0 r1=>c_ (.ptr 0 0) [⟨138,1,.cells [.bool r0,vwr r1]⟩,⟨138,1,.cells [.bool b_1,vwr b_2]⟩])
 | _=>false
abbrev Z3 (an6:DT):Fs:=aA XC (YW an6)
def aeZ:FnSh:=⟨[.roi .u64,.roi .u64],[]⟩
def agX (SQ6:uf):SPT:=λa_ c_=>match a_ with
 | [.ints x,.ints y]=>SQ6 x y (λr0=>c_ (vwi r0) [])
 | _=>false
abbrev FQ6 (SQ6:uf):Fs:=aA aeZ (agX SQ6)
def Fz:FnSh:=⟨[.int .u64],[]⟩
def Zn (aoQ:zY):SPT:=λa_ c_=>match a_ with
 | [.int x]=>aoQ x (λr0=>c_ (vwi r0) [])
 | _=>false
abbrev RB (aoQ:zY):Fs:=aA Fz (Zn aoQ)
def XO:FnSh:=⟨[.roi .u64],[]⟩
def Y5 (amq:DZ):SPT:=λa_ c_=>match a_ with
 | [.ints x]=>amq x (λr0=>c_ (vwi r0) [])
 | _=>false
abbrev Z9 (amq:DZ):Fs:=aA XO (Y5 amq)
def XM:FnSh:=⟨[.roi .u64,.int .i64],[]⟩
def Y3 (amg:q7):SPT:=λa_ c_=>match a_ with
 | [.ints x,.int i]=>amg x i (λr0=>c_ (vwu r0) [])
 | _=>false
abbrev FY (amg:q7):Fs:=aA XM (Y3 amg)
def Ym:FnSh:=⟨[.roi .u64,.int .i64],[]⟩
def ZH (amo:D8):SPT:=λa_ c_=>match a_ with
 | [.ints x,.int from_]=>amo x from_ (λr0=>c_ (vwu r0) [])
 | _=>false
abbrev aaC (amo:D8):Fs:=aA Ym (ZH amo)
def XU:FnSh:=⟨[.int .u64,.int .u64],[]⟩
def Zb (amr:D3):SPT:=λa_ c_=>match a_ with
 | [.int x,.int y]=>amr x y (λr0 r1 r2 r3 r4=>c_ (.agg [vwu r0,vwu r1,vwu r2,vwu r3,.bool r4]) [])
 | _=>false
abbrev aae (amr:D3):Fs:=aA XU (Zb amr)
def Xq:FnSh:=⟨[.int .u64,.int .u64],[]⟩
def YL (amH:uX):SPT:=λa_ c_=>match a_ with
 | [.int x,.int y]=>amH x y (λr0 r1=>c_ (.tup [vwu r0,vwu r1]) [])
 | _=>false
abbrev I5 (amH:uX):Fs:=aA Xq (YL amH)
def ajE:FnSh:=⟨[.int .u64,.int .u64,.int .u64],[]⟩
def ajI (SQ5:qZ):SPT:=λa_ c_=>match a_ with
 | [.int a0,.int a1,.int a2]=>SQ5 a0 a1 a2 (λr0 r1=>c_ (.tup [vwu r0,vwu r1]) [])
 | _=>false
abbrev FQ5 (SQ5:qZ):Fs:=aA ajE (ajI SQ5)
def Xe:FnSh:=⟨[.int .u64,.int .u64,.int .u64,.int .u64],[]⟩
def Yy (alJ:oD):SPT:=λa_ c_=>match a_ with
 | [.int a,.int b,.int c,.int d]=>alJ a b c d (λr0 r1=>c_ (.tup [vwu r0,vwu r1]) [])
 | _=>false
abbrev FR (alJ:oD):Fs:=aA Xe (Yy alJ)
def QU:FnSh:=⟨[.roi .u64,.int .u64,.int .u64],[]⟩
def N1 (an1:Bs):SPT:=λa_ c_=>match a_ with
 | [.ints x,.int d,.int more]=>an1 x d more (λr0=>c_ (vwr r0) [])
 | _=>false
abbrev OO (an1:Bs):Fs:=aA QU (N1 an1)
def ajF:FnSh:=⟨[.int .u64,.int .u64,.int .u64],[]⟩
def ajJ (SQ9:yQ):SPT:=λa_ c_=>match a_ with
 | [.int a0,.int a1,.int a2]=>SQ9 a0 a1 a2 (λr0 r1=>c_ (.tup [vwu r0,vwu r1]) [])
 | _=>false
abbrev FQ9 (SQ9:yQ):Fs:=aA ajF (ajJ SQ9)
def QN:FnSh:=⟨[.roi .u64,.roi .u64],[]⟩
def NR (anl:uc):SPT:=λa_ c_=>match a_ with
 | [.ints x,.ints y]=>anl x y (λr0=>c_ (vwr r0) [])
 | _=>false
abbrev Gr (anl:uc):Fs:=aA QN (NR anl)
def ob:FnSh:=⟨[.agg [.int .u64,.int .u64,.int .u64,.int .u64,.bool],.roi .u64,.roi .u64],[]⟩
def kK (alk:dw):SPT:=λa_ c_=>match a_ with
 | [.int w_0,.int w_1,.int w_2,.int w_3,.bool w_4,.ints x,.ints y]=>alk w_0 w_1 w_2 w_3 w_4 x y (λr0 r1=>c_ (.tup [vwr r0,vwr r1]) [])
 | _=>false
abbrev iS (alk:dw):Fs:=aA ob (kK alk)
def aeY:FnSh:=⟨[.int .u64],[]⟩
def agW (SQ3:zU):SPT:=λa_ c_=>match a_ with
 | [.int x]=>SQ3 x (λr0=>c_ (vwi r0) [])
 | _=>false
abbrev FQ3 (SQ3:zU):Fs:=aA aeY (agW SQ3)
def Xf:FnSh:=⟨[.int .u64,.int .u64,.int .u64],[]⟩
def Yz (ami:uV):SPT:=λa_ c_=>match a_ with
 | [.int hi,.int lo,.int y]=>ami hi lo y (λr0 r1=>c_ (.tup [vwu r0,vwu r1]) [])
 | _=>false
abbrev I3 (ami:uV):Fs:=aA Xf (Yz ami)
def X4:FnSh:=⟨[.roi .u64,.int .u64],[]⟩
def Zm (amu:Cw):SPT:=λa_ c_=>match a_ with
 | [.ints x,.int d]=>amu x d (λr0 r1=>c_ (.tup [vwr r0,vwu r1]) [])
 | _=>false
abbrev aao (amu:Cw):Fs:=aA X4 (Zm amu)
def Xr:FnSh:=⟨[.roi .u64,.int .u64],[]⟩
def YM (aml:Cq):SPT:=λa_ c_=>match a_ with
 | [.ints x,.int n]=>aml x n (c_ (.nil) []) (λr0 r1=>c_ (.sl 0 0 r0) [⟨22,1,.ints .u64 r1⟩])
 | _=>false
abbrev ZZ (aml:Cq):Fs:=aA Xr (YM aml)
def XN:FnSh:=⟨[.sl 0,.roi .u64],[some (22,1,.ints .u64)]⟩
def Y4 (am9:DY):SPT:=λa_ c_=>match a_ with
 | [.nat u_0,.nat u_1,.ints v,.ints b]=>am9 u_0 u_1 v b (λr0=>c_ (vwu r0) [⟨22,1,.ints .u64 b⟩])
 | _=>false
abbrev Z8 (am9:DY):Fs:=aA XN (Y4 am9)
def Nu:FnSh:=⟨[.sl 0,.roi .u64],[some (22,1,.ints .u64)]⟩
def Y7 (amy:Cu):SPT:=λa_ c_=>match a_ with
 | [.nat u_0,.nat u_1,.ints v,.ints b]=>amy u_0 u_1 v b (λr0 r1=>c_ (vwu r0) [⟨22,1,.ints .u64 r1⟩])
 | _=>false
abbrev Z_ (amy:Cu):Fs:=aA Nu (Y7 amy)
def Xt:FnSh:=⟨[.sl 0,.sl 1],[some (22,1,.ints .u64),some (22,1,.ints .u64)]⟩
def YO (am8:Cr):SPT:=λa_ c_=>match a_ with
 | [.nat u_0,.nat u_1,.nat v_0,.nat v_1,.ints b,.ints b_1]=>am8 u_0 u_1 v_0 v_1 b b_1 (λr0=>c_ (vwu r0) [⟨22,1,.ints .u64 b⟩,⟨22,1,.ints .u64 b_1⟩])
 | _=>false
abbrev Z1 (am8:Cr):Fs:=aA Xt (YO am8)
def XB:FnSh:=⟨[.sl 0,.sl 1],[some (22,1,.ints .u64),some (22,1,.ints .u64)]⟩
def YV (amw:Cs):SPT:=λa_ c_=>match a_ with
 | [.nat u_0,.nat u_1,.nat v_0,.nat v_1,.ints b,.ints b_1]=>amw u_0 u_1 v_0 v_1 b b_1 (λr0 r1=>c_ (vwu r0) [⟨22,1,.ints .u64 r1⟩,⟨22,1,.ints .u64 b_1⟩])
 | _=>false
abbrev Z2 (amw:Cs):Fs:=aA XB (YV amw)
def Nw:FnSh:=⟨[.sl 0],[some (22,1,.ints .u64)]⟩
def Y8 (amz:Cv):SPT:=λa_ c_=>match a_ with
 | [.nat x_0,.nat x_1,.ints b]=>amz x_0 x_1 b (λr1=>c_ (.sl 0 x_0 r1) [⟨22,1,.ints .u64 b⟩])
 | _=>false
abbrev aaa (amz:Cv):Fs:=aA Nw (Y8 amz)
def XY:FnSh:=⟨[.sl 0,.int .i64],[some (22,1,.ints .u64)]⟩
def Zf (anL:D5):SPT:=λa_ c_=>match a_ with
 | [.nat x_0,.nat x_1,.int i,.ints b]=>anL x_0 x_1 i b (λr0=>c_ (vwu r0) [⟨22,1,.ints .u64 b⟩])
 | _=>false
abbrev aai (anL:D5):Fs:=aA XY (Zf anL)
def XJ:FnSh:=⟨[.sl 0,.int .u64],[some (22,1,.ints .u64)]⟩
def Y2 (amx:Ct):SPT:=λa_ c_=>match a_ with
 | [.nat x_0,.nat x_1,.int n,.ints b]=>amx x_0 x_1 n b (λr0 r1=>c_ (.tup [vwr r0,.bool r1]) [⟨22,1,.ints .u64 b⟩])
 | _=>false
abbrev Z7 (amx:Ct):Fs:=aA XJ (Y2 amx)
def Lh:FnSh:=⟨[.roi .u64,.roi .u64],[]⟩
def agZ (SQ8:yP):SPT:=λa_ c_=>match a_ with
 | [.ints x,.ints y]=>SQ8 x y (λr0 r1=>c_ (.tup [vwr r0,vwr r1]) [])
 | _=>false
abbrev FQ8 (SQ8:yP):Fs:=aA Lh (agZ SQ8)
def Yl:FnSh:=⟨[.roi .u64],[]⟩
def ZG (amn:D7):SPT:=λa_ c_=>match a_ with
 | [.ints x]=>amn x (λr0=>c_ (vwu r0) [])
 | _=>false
abbrev aaB (amn:D7):Fs:=aA Yl (ZG amn)
def Fw:FnSh:=⟨[.roi .u64,.roi .u64],[]⟩
def YS (amj:qb):SPT:=λa_ c_=>match a_ with
 | [.ints x,.ints y]=>amj x y (λr0=>c_ (vwr r0) [])
 | _=>false
abbrev FV (amj:qb):Fs:=aA Fw (YS amj)
def Fv:FnSh:=⟨[.ptr 0 0,.bool,.roi .u64],[some (144,1,.cells [.bool,.nil,.bool,.nil])]⟩
def Yv (amP:tk):SPT:=λa_ c_=>match a_ with
 | [.bool neg,.ints abs,.bool b,.bool b_1]=>amP neg abs b b_1 (λr0 r3=>c_ (.ptr 0 0) [⟨144,1,.cells [.bool r0,vwr abs,.bool b_1,vwr r3]⟩])
 | _=>false
abbrev I2 (amP:tk):Fs:=aA Fv (Yv amP)
def Xp:FnSh:=⟨[.ptr 0 2,.bool,.roi .u64],[some (144,1,.cells [.bool,.roi .u64,.bool,.roi .u64])]⟩
def YK (anm:yo):SPT:=λa_ c_=>match a_ with
 | [.bool neg,.ints abs,.bool b,.ints b_1,.bool b_2,.ints b_3]=>anm neg abs b b_1 b_2 b_3 (λr2=>c_ (.ptr 0 2) [⟨144,1,.cells [.bool b,vwr b_1,.bool r2,vwr abs]⟩])
 | _=>false
abbrev Rv (anm:yo):Fs:=aA Xp (YK anm)
def Fx:FnSh:=⟨[.ptr 0 0,.bool,.roi .u64,.roi .u64],[some (144,1,.cells [.bool,.nil,.bool,.nil])]⟩
def Zd (aqV:GE):SPT:=λa_ c_=>match a_ with
 | [.bool neg,.ints a,.ints b,.bool b_1,.bool b_2]=>aqV neg a b b_1 b_2 (λr0 r1 r2 r3=>c_ (.ptr 0 0) [⟨144,1,.cells [.bool r0,vwr r1,.bool r2,vwr r3]⟩])
 | _=>false
abbrev aag (aqV:GE):Fs:=aA Fx (Zd aqV)
def ae0:FnSh:=⟨[.ptr 0 0,.ptr 1 0,.ptr 2 0],[some (144,1,.cells [.bool,.nil,.bool,.nil]),some (138,1,.cells [.bool,.roi .u64]),some (138,1,.cells [.bool,.roi .u64])]⟩
def agY (SQ7:F2):SPT:=λa_ c_=>match a_ with
 | [.bool b,.bool b_1,.bool b_2,.ints b_3,.bool b_4,.ints b_5]=>SQ7 b b_1 b_2 b_3 b_4 b_5 (λr0 r1 r2 r3=>c_ (.ptr 0 0) [⟨144,1,.cells [.bool r0,vwr r1,.bool r2,vwr r3]⟩,⟨138,1,.cells [.bool b_2,vwr b_3]⟩,⟨138,1,.cells [.bool b_4,vwr b_5]⟩])
 | _=>false
abbrev FQ7 (SQ7:F2):Fs:=aA ae0 (agY SQ7)
def X2:FnSh:=⟨[.roi .u64,.roi .u64],[]⟩
def Zj (am0:q8):SPT:=λa_ c_=>match a_ with
 | [.ints x,.ints y]=>am0 x y (λr0=>c_ (vwr r0) [])
 | _=>false
abbrev FZ (am0:q8):Fs:=aA X2 (Zj am0)
def Xs:FnSh:=⟨[.ptr 0 0,.ptr 0 0,.ptr 1 0],[some (138,1,.cells [.bool,.roi .u64]),some (138,1,.cells [.bool,.roi .u64])]⟩
def YN (an5:DR):SPT:=λa_ c_=>match a_ with
 | [.bool b,.ints b_1,.bool b_2,.ints b_3]=>an5 b b_1 b_2 b_3 (λr0 r1=>c_ (.ptr 0 0) [⟨138,1,.cells [.bool r0,vwr r1]⟩,⟨138,1,.cells [.bool b_2,vwr b_3]⟩])
 | _=>false
abbrev Z0 (an5:DR):Fs:=aA Xs (YN an5)
def XV:FnSh:=⟨[.ptr 0 2,.bool,.slw 1],[some (144,1,.cells [.bool,.roi .u64,.bool,.roi .u64]),some (22,1,.ints .u64)]⟩
def Zc (aqU:GD):SPT:=λa_ c_=>match a_ with
 | [.bool neg,.bool b,.ints b_1,.bool b_2,.ints b_3,.ints b_4]=>aqU neg b b_1 b_2 b_3 b_4 (λr2=>c_ (.ptr 0 2) [⟨144,1,.cells [.bool b,vwr b_1,.bool r2,.slw 1]⟩,⟨22,1,.ints .u64 b_4⟩])
 | _=>false
abbrev aaf (aqU:GD):Fs:=aA XV (Zc aqU)
def XZ:FnSh:=⟨[.ptr 0 0,.bool,.roi .u64,.slw 1],[some (144,1,.cells [.bool,.nil,.bool,.nil]),some (22,1,.ints .u64)]⟩
def Zg (aqX:GG):SPT:=λa_ c_=>match a_ with
 | [.bool neg,.ints a,.bool b,.bool b_1,.ints b_2]=>aqX neg a b b_1 b_2 (λr0 r2=>c_ (.ptr 0 0) [⟨144,1,.cells [.bool r0,vwr a,.bool r2,.slw 1]⟩,⟨22,1,.ints .u64 b_2⟩])
 | _=>false
abbrev aaj (aqX:GG):Fs:=aA XZ (Zg aqX)
def Xk:FnSh:=⟨[.ptr 0 0,.ptr 1 0],[some (144,1,.cells [.bool,.nil,.bool,.nil]),some (138,1,.cells [.bool,.roi .u64])]⟩
def YE (an4:DP):SPT:=λa_ c_=>match a_ with
 | [.bool b,.bool b_1,.bool b_2,.ints b_3]=>an4 b b_1 b_2 b_3 (λr0 r1 r2 r3=>c_ (.ptr 0 0) [⟨144,1,.cells [.bool r0,vwr r1,.bool r2,vwr r3]⟩,⟨138,1,.cells [.bool b_2,vwr b_3]⟩])
 | _=>false
abbrev ZW (an4:DP):Fs:=aA Xk (YE an4)
def gC:FnSh:=⟨[.flt],[]⟩
def mv (alw:ft):SPT:=λa_ c_=>match a_ with
 | [.fl x]=>alw x (λr0 r1 r2 r3=>c_ (.agg [.rp [.bool r0,vwr r1,.bool r2,vwr r3] 0]) [])
 | _=>false
abbrev j5 (alw:ft):Fs:=aA gC (mv alw)
def oH:FnSh:=⟨[.agg [.int .i64,.int .i64,.rof]],[]⟩
def lJ (alR:eF):SPT:=λa_ c_=>match a_ with
 | [.int m_0,.int m_1,.fls m_2]=>alR m_0 m_1 m_2 (λr2=>c_ (.agg [vwi m_0,vwi m_1,.slw 0]) [⟨130,1,.recs RT0 r2⟩])
 | _=>false
abbrev jq (alR:eF):Fs:=aA oH (lJ alR)
def mj:FnSh:=⟨[.agg [.int .i64,.int .i64,.slw 0],.int .i64,.int .i64],[some (130,1,.recs RT0)]⟩
def jk (alc:aP):SPT:=λa_ c_=>match a_ with
 | [.int g_0,.int g_1,.int i,.int j,.recs t4_ b]=>RT.cast RT0 t4_ b (λb=>alc g_0 g_1 i j b (λr0 r1 r2 r3=>c_ (.agg [.rp [.bool r0,vwr r1,.bool r2,vwr r3] 0]) [⟨130,1,.recs RT0 b⟩])) false
 | _=>false
abbrev bO (alc:aP):Fs:=aA mj (jk alc)
def Ns:FnSh:=⟨[.rp [.bool,.roi .u64,.bool,.roi .u64] 0],[]⟩
def YF (amF:oE):SPT:=λa_ c_=>match a_ with
 | [.bool x_0,.ints x_1,.bool x_2,.ints x_3]=>amF x_0 x_1 x_2 x_3 (λr0=>c_ (vwr r0) [])
 | _=>false
abbrev C1 (amF:oE):Fs:=aA Ns (YF amF)
def Xh:FnSh:=⟨[.ptr 0 0,.bool,.roi .u64,.roi .u64],[some (144,1,.cells [.bool,.nil,.bool,.nil])]⟩
def YA (anb:qY):SPT:=λa_ c_=>match a_ with
 | [.bool neg,.ints a,.ints b,.bool b_1,.bool b_2]=>anb neg a b b_1 b_2 (λr0 r2=>c_ (.ptr 0 0) [⟨144,1,.cells [.bool r0,vwr a,.bool r2,vwr b]⟩])
 | _=>false
abbrev FT (anb:qY):Fs:=aA Xh (YA anb)
def X8:FnSh:=⟨[.ptr 0 0,.rp [.bool,.roi .u64,.bool,.roi .u64] 0],[some (144,1,.cells [.bool,.nil,.bool,.nil])]⟩
def Zr (aq2:GN):SPT:=λa_ c_=>match a_ with
 | [.bool x_0,.ints x_1,.bool x_2,.ints x_3,.bool b,.bool b_1]=>aq2 x_0 x_1 x_2 x_3 b b_1 (λr0 r1 r2 r3=>c_ (.ptr 0 0) [⟨144,1,.cells [.bool r0,vwr r1,.bool r2,vwr r3]⟩])
 | _=>false
abbrev aar (aq2:GN):Fs:=aA X8 (Zr aq2)
def XX:FnSh:=⟨[.ptr 0 0],[some (144,1,.cells [.bool,.roi .u64,.bool,.roi .u64])]⟩
def Ze (aqW:GF):SPT:=λa_ c_=>match a_ with
 | [.bool b,.ints b_1,.bool b_2,.ints b_3]=>aqW b b_1 b_2 b_3 (λr0=>c_ (vwr r0) [⟨144,1,.cells [.bool b,vwr b_1,.bool b_2,vwr b_3]⟩])
 | _=>false
abbrev aah (aqW:GF):Fs:=aA XX (Ze aqW)
def AQ:FnSh:=⟨[.roi .u64,.roi .u64],[]⟩
def NE (amk:pK):SPT:=λa_ c_=>match a_ with
 | [.ints x,.ints y]=>amk x y (λr0=>c_ (vwr r0) [])
 | _=>false
abbrev Co (amk:pK):Fs:=aA AQ (NE amk)
def Q5:FnSh:=⟨[.roi .u64,.roi .u64],[]⟩
def Oc (apL:BB):SPT:=λa_ c_=>match a_ with
 | [.ints x,.ints y]=>apL x y (λr0=>c_ (vwr r0) [])
 | _=>false
abbrev O0 (apL:BB):Fs:=aA Q5 (Oc apL)
def XF:FnSh:=⟨[.ptr 0 0,.ptr 0 0,.bool,.roi .u64],[some (138,1,.cells [.bool,.roi .u64])]⟩
def YZ (aoP:zW):SPT:=λa_ c_=>match a_ with
 | [.bool neg,.ints y,.bool b,.ints b_1]=>aoP neg y b b_1 (λr0 r1=>c_ (.ptr 0 0) [⟨138,1,.cells [.bool r0,vwr r1]⟩])
 | _=>false
abbrev Rz (aoP:zW):Fs:=aA XF (YZ aoP)
def XQ:FnSh:=⟨[.ptr 0 0,.rp [.bool,.roi .u64,.bool,.roi .u64] 0,.ptr 1 0],[some (144,1,.cells [.bool,.nil,.bool,.nil]),some (144,1,.cells [.bool,.roi .u64,.bool,.roi .u64])]⟩
def Y9 (aqS:GA):SPT:=λa_ c_=>match a_ with
 | [.bool x_0,.ints x_1,.bool x_2,.ints x_3,.bool b,.bool b_1,.bool b_2,.ints b_3,.bool b_4,.ints b_5]=>aqS x_0 x_1 x_2 x_3 b b_1 b_2 b_3 b_4 b_5 (λr0 r1 r2 r3=>c_ (.ptr 0 0) [⟨144,1,.cells [.bool r0,vwr r1,.bool r2,vwr r3]⟩,⟨144,1,.cells [.bool b_2,vwr b_3,.bool b_4,vwr b_5]⟩])
 | _=>false
abbrev aab (aqS:GA):Fs:=aA XQ (Y9 aqS)
def Yd:FnSh:=⟨[.ptr 0 0,.rp [.bool,.roi .u64,.bool,.roi .u64] 0,.rp [.bool,.roi .u64,.bool,.roi .u64] 0],[some (144,1,.cells [.bool,.nil,.bool,.nil])]⟩
def Zy (aq8:GT):SPT:=λa_ c_=>match a_ with
 | [.bool x_0,.ints x_1,.bool x_2,.ints x_3,.bool y_0,.ints y_1,.bool y_2,.ints y_3,.bool b,.bool b_1]=>aq8 x_0 x_1 x_2 x_3 y_0 y_1 y_2 y_3 b b_1 (λr0 r1 r2 r3=>c_ (.ptr 0 0) [⟨144,1,.cells [.bool r0,vwr r1,.bool r2,vwr r3]⟩])
 | _=>false
abbrev aax (aq8:GT):Fs:=aA Yd (Zy aq8)
def lF:FnSh:=⟨[.agg [.rp [.bool,.roi .u64,.bool,.roi .u64] 0],.agg [.rp [.bool,.roi .u64,.bool,.roi .u64] 0]],[]⟩
def iN (alg:bf):SPT:=λa_ c_=>match a_ with
 | [.bool x_0,.ints x_1,.bool x_2,.ints x_3,.bool y_0,.ints y_1,.bool y_2,.ints y_3]=>alg x_0 x_1 x_2 x_3 y_0 y_1 y_2 y_3 (λr0 r1 r2 r3=>c_ (.agg [.rp [.bool r0,vwr r1,.bool r2,vwr r3] 0]) [])
 | _=>false
abbrev dn (alg:bf):Fs:=aA lF (iN alg)
def QG:FnSh:=⟨[.rp [.bool,.roi .u64,.bool,.roi .u64] 0],[]⟩
def NK (apx:Bb):SPT:=λa_ c_=>match a_ with
 | [.bool x_0,.ints x_1,.bool x_2,.ints x_3]=>apx x_0 x_1 x_2 x_3 (λr0=>c_ (vwi r0) [])
 | _=>false
abbrev Ox (apx:Bb):Fs:=aA QG (NK apx)
def QH:FnSh:=⟨[.rp [.bool,.roi .u64,.bool,.roi .u64] 0],[]⟩
def NL (apy:Bc):SPT:=λa_ c_=>match a_ with
 | [.bool x_0,.ints x_1,.bool x_2,.ints x_3]=>apy x_0 x_1 x_2 x_3 (λr0=>c_ (vwi r0) [])
 | _=>false
abbrev Oy (apy:Bc):Fs:=aA QH (NL apy)
def lI:FnSh:=⟨[.agg [.rp [.bool,.roi .u64,.bool,.roi .u64] 0]],[]⟩
def iQ (ale:bg):SPT:=λa_ c_=>match a_ with
 | [.bool x_0,.ints x_1,.bool x_2,.ints x_3]=>ale x_0 x_1 x_2 x_3 (λr0=>c_ (vwi r0) [])
 | _=>false
abbrev dp (ale:bg):Fs:=aA lI (iQ ale)
def jn:FnSh:=⟨[.agg [.int .i64,.int .i64,.slw 0]],[some (130,1,.recs RT0)]⟩
def fT (alz:bH):SPT:=λa_ c_=>match a_ with
 | [.int g_0,.int g_1,.recs t2_ b]=>RT.cast RT0 t2_ b (λb=>alz g_0 g_1 b (c_ (.tup []) [⟨130,1,.recs RT0 b⟩])) false
 | _=>false
abbrev dO (alz:bH):Fs:=aA jn (fT alz)
def QQ:FnSh:=⟨[.int .i64,.int .i64],[]⟩
def NU (apC:Bl):SPT:=λa_ c_=>match a_ with
 | [.int a,.int b]=>apC a b (λr0 r1 r2 r3=>c_ (.ptr 0 0) [⟨144,1,.cells [.bool r0,vwr r1,.bool r2,vwr r3]⟩])
 | _=>false
abbrev OH (apC:Bl):Fs:=aA QQ (NU apC)
def rK:FnSh:=⟨[.int .i64],[]⟩
def od (alu:gP):SPT:=λa_ c_=>match a_ with
 | [.int n]=>alu n (λr0 r1 r2 r3=>c_ (.agg [.rp [.bool r0,vwr r1,.bool r2,vwr r3] 0]) [])
 | _=>false
abbrev lN (alu:gP):Fs:=aA rK (od alu)
def Xw:FnSh:=⟨[.ptr 0 0,.bool,.roi .u64,.roi .u64,.roi .u64,.roi .u64],[some (144,1,.cells [.bool,.nil,.bool,.nil])]⟩
def YR (aoO:zV):SPT:=λa_ c_=>match a_ with
 | [.bool neg,.ints a,.ints b,.ints c,.ints d,.bool b_1,.bool b_2]=>aoO neg a b c d b_1 b_2 (λr0 r1 r2 r3=>c_ (.ptr 0 0) [⟨144,1,.cells [.bool r0,vwr r1,.bool r2,vwr r3]⟩])
 | _=>false
abbrev Ry (aoO:zV):Fs:=aA Xw (YR aoO)
def Yc:FnSh:=⟨[.ptr 0 0,.rp [.bool,.roi .u64,.bool,.roi .u64] 0,.rp [.bool,.roi .u64,.bool,.roi .u64] 0],[some (144,1,.cells [.bool,.nil,.bool,.nil])]⟩
def Zx (aq7:GS):SPT:=λa_ c_=>match a_ with
 | [.bool x_0,.ints x_1,.bool x_2,.ints x_3,.bool y_0,.ints y_1,.bool y_2,.ints y_3,.bool b,.bool b_1]=>aq7 x_0 x_1 x_2 x_3 y_0 y_1 y_2 y_3 b b_1 (λr0 r1 r2 r3=>c_ (.ptr 0 0) [⟨144,1,.cells [.bool r0,vwr r1,.bool r2,vwr r3]⟩])
 | _=>false
abbrev aaw (aq7:GS):Fs:=aA Yc (Zx aq7)
def lG:FnSh:=⟨[.agg [.rp [.bool,.roi .u64,.bool,.roi .u64] 0],.agg [.rp [.bool,.roi .u64,.bool,.roi .u64] 0]],[]⟩
def iO (alo:cW):SPT:=λa_ c_=>match a_ with
 | [.bool x_0,.ints x_1,.bool x_2,.ints x_3,.bool y_0,.ints y_1,.bool y_2,.ints y_3]=>alo x_0 x_1 x_2 x_3 y_0 y_1 y_2 y_3 (λr0 r1 r2 r3=>c_ (.agg [.rp [.bool r0,vwr r1,.bool r2,vwr r3] 0]) [])
 | _=>false
abbrev fW (alo:cW):Fs:=aA lG (iO alo)
def Yb:FnSh:=⟨[.ptr 0 0,.rp [.bool,.roi .u64,.bool,.roi .u64] 0,.rp [.bool,.roi .u64,.bool,.roi .u64] 0],[some (144,1,.cells [.bool,.nil,.bool,.nil])]⟩
def Zw (aq6:GR):SPT:=λa_ c_=>match a_ with
 | [.bool x_0,.ints x_1,.bool x_2,.ints x_3,.bool y_0,.ints y_1,.bool y_2,.ints y_3,.bool b,.bool b_1]=>aq6 x_0 x_1 x_2 x_3 y_0 y_1 y_2 y_3 b b_1 (λr0 r1 r2 r3=>c_ (.ptr 0 0) [⟨144,1,.cells [.bool r0,vwr r1,.bool r2,vwr r3]⟩])
 | _=>false
abbrev aav (aq6:GR):Fs:=aA Yb (Zw aq6)
def kX:FnSh:=⟨[.agg [.rp [.bool,.roi .u64,.bool,.roi .u64] 0],.agg [.rp [.bool,.roi .u64,.bool,.roi .u64] 0]],[]⟩
def iG (alr:cF):SPT:=λa_ c_=>match a_ with
 | [.bool x_0,.ints x_1,.bool x_2,.ints x_3,.bool y_0,.ints y_1,.bool y_2,.ints y_3]=>alr x_0 x_1 x_2 x_3 y_0 y_1 y_2 y_3 (λr0 r1 r2 r3=>c_ (.agg [.rp [.bool r0,vwr r1,.bool r2,vwr r3] 0]) [])
 | _=>false
abbrev fB (alr:cF):Fs:=aA kX (iG alr)
def X5:FnSh:=⟨[.ptr 0 0,.rp [.bool,.roi .u64,.bool,.roi .u64] 0,.rp [.bool,.roi .u64,.bool,.roi .u64] 0],[some (144,1,.cells [.bool,.nil,.bool,.nil])]⟩
def Zo (aq0:GL):SPT:=λa_ c_=>match a_ with
 | [.bool x_0,.ints x_1,.bool x_2,.ints x_3,.bool y_0,.ints y_1,.bool y_2,.ints y_3,.bool b,.bool b_1]=>aq0 x_0 x_1 x_2 x_3 y_0 y_1 y_2 y_3 b b_1 (λr0 r1 r2 r3=>c_ (.ptr 0 0) [⟨144,1,.cells [.bool r0,vwr r1,.bool r2,vwr r3]⟩])
 | _=>false
abbrev aap (aq0:GL):Fs:=aA X5 (Zo aq0)
def lH:FnSh:=⟨[.agg [.rp [.bool,.roi .u64,.bool,.roi .u64] 0],.agg [.rp [.bool,.roi .u64,.bool,.roi .u64] 0]],[]⟩
def iP (als:cX):SPT:=λa_ c_=>match a_ with
 | [.bool x_0,.ints x_1,.bool x_2,.ints x_3,.bool y_0,.ints y_1,.bool y_2,.ints y_3]=>als x_0 x_1 x_2 x_3 y_0 y_1 y_2 y_3 (λr0 r1 r2 r3=>c_ (.agg [.rp [.bool r0,vwr r1,.bool r2,vwr r3] 0]) [])
 | _=>false
abbrev fX (als:cX):Fs:=aA lH (iP als)
def ml:FnSh:=⟨[.agg [.int .i64,.int .i64,.slw 0],.int .i64,.int .i64,.agg [.rp [.bool,.roi .u64,.bool,.roi .u64] 0]],[some (130,1,.recs RT0)]⟩
def jl (alt:du):SPT:=λa_ c_=>match a_ with
 | [.int g_0,.int g_1,.int i,.int j,.bool x_0,.ints x_1,.bool x_2,.ints x_3,.recs t8_ b]=>RT.cast RT0 t8_ b (λb=>alt g_0 g_1 i j x_0 x_1 x_2 x_3 b (λr0=>c_ (.tup []) [⟨130,1,.recs RT0 r0⟩])) false
 | _=>false
abbrev gK (alt:du):Fs:=aA ml (jl alt)
def mi:FnSh:=⟨[.agg [.int .i64,.int .i64,.slw 0],.int .i64,.int .i64,.agg [.rp [.bool,.roi .u64,.bool,.roi .u64] 0]],[some (130,1,.recs RT0)]⟩
def jj (alp:dr):SPT:=λa_ c_=>match a_ with
 | [.int g_0,.int g_1,.int i,.int k_,.bool x_0,.ints x_1,.bool x_2,.ints x_3,.recs t8_ b]=>RT.cast RT0 t8_ b (λb=>alp g_0 g_1 i k_ x_0 x_1 x_2 x_3 b (λr0=>c_ (.tup []) [⟨130,1,.recs RT0 r0⟩])) false
 | _=>false
abbrev gJ (alp:dr):Fs:=aA mi (jj alp)
def jT:FnSh:=⟨[.agg [.int .i64,.int .i64,.slw 0]],[some (130,1,.recs RT0)]⟩
def gF (alC:bQ):SPT:=λa_ c_=>match a_ with
 | [.int g_0,.int g_1,.recs t2_ b]=>RT.cast RT0 t2_ b (λb=>alC g_0 g_1 b (λr0 r1=>c_ (vwi r0) [⟨130,1,.recs RT0 r1⟩])) false
 | _=>false
abbrev ek (alC:bQ):Fs:=aA jT (gF alC)
def lE:FnSh:=⟨[.agg [.int .i64,.int .i64,.slw 0]],[some (130,1,.recs RT0)]⟩
def iM (alF:cV):SPT:=λa_ c_=>match a_ with
 | [.int g_0,.int g_1,.recs t2_ b]=>RT.cast RT0 t2_ b (λb=>alF g_0 g_1 b (λr0 r1=>c_ (vwi r0) [⟨130,1,.recs RT0 r1⟩])) false
 | _=>false
abbrev fV (alF:cV):Fs:=aA lE (iM alF)
def pI:FnSh:=⟨[.agg [.int .i64,.int .i64,.rof]],[]⟩
def mu (alS:fq):SPT:=λa_ c_=>match a_ with
 | [.int m_0,.int m_1,.fls m_2]=>alS m_0 m_1 m_2 (λr0 r1=>c_ (.tup [vwi r0,vwi r1]) [])
 | _=>false
abbrev j4 (alS:fq):Fs:=aA pI (mu alS)
def qi:FnSh:=⟨[.agg [.int .i64,.int .i64,.rof]],[]⟩
def ng (alD:cY):SPT:=λa_ c_=>match a_ with
 | [.int p_0,.int p_1,.fls p_2]=>alD p_0 p_1 p_2 (λr0=>c_ (.bool r0) [])
 | _=>false
abbrev gI (alD:cY):Fs:=aA qi (ng alD)
def tS:FnSh:=⟨[.agg [.rof,.int .i64,.int .i64,.rof]],[]⟩
def pX (alx:eu):SPT:=λa_ c_=>match a_ with
 | [.fls s_0,.int s_1,.int s_2,.fls s_3]=>alx s_0 s_1 s_2 s_3 (λr0=>c_ (vwi r0) [])
 | _=>false
abbrev jH (alx:eu):Fs:=aA tS (pX alx)
def vj:FnSh:=⟨[.int .i64,.rof,.flt],[]⟩
def rL (alK:jL):SPT:=λa_ c_=>match a_ with
 | [.int n,.fls h,.fl r]=>alK n h r (λr0=>c_ (vwi r0) [])
 | _=>false
abbrev o_ (alK:jL):Fs:=aA vj (rL alK)
def w8:FnSh:=⟨[.agg [.int .i64,.int .i64,.rof],.int .i64],[]⟩
def te (alP:kC):SPT:=λa_ c_=>match a_ with
 | [.int m_0,.int m_1,.fls m_2,.int i]=>alP m_0 m_1 m_2 i (λr0=>c_ (.rof r0) [])
 | _=>false
abbrev qo (alP:kC):Fs:=aA w8 (te alP)
def XL:FnSh:=⟨[.ptr 0 0,.flt],[some (87,1,.cells [.bool,.rof,.int .i64,.int .i64,.rof,.rof,.flt,.flt,.nil,.nil,.flt])]⟩
def Rg (anC:yr):SPT:=λa_ c_=>match a_ with
 | [.fl x,.bool b,.fls b_1,.int b_2,.int b_3,.fls b_4,.fls b_5,.fl b_6,.fl b_7,.fl b_8]=>anC x b b_1 b_2 b_3 b_4 b_5 b_6 b_7 b_8 (λr1=>c_ (.flt x) [⟨87,1,.cells [.bool r1,.rof b_1,vwi b_2,vwi b_3,.rof b_4,.rof b_5,.flt b_6,.flt b_7,.nil,.nil,.flt b_8]⟩])
 | _=>false
abbrev LB (anC:yr):Fs:=aA XL (Rg anC)
theorem lu (anC:yr):FrF 1 (LB anC):=by
 refine tw λa k h=>?_
 unfold Rg at h ⊢;split at h
 ·rename_i p_x p_b anw ano anp anq anr ans ant anu;refine⟨[⟨87,1,.cells [.bool p_b,.rof anw,vwi ano,vwi anp,.rof anq,.rof anr,.flt ans,.flt ant,.nil,.nil,.flt anu]⟩],rfl,?_⟩;simp only[lV,lW,decide_true,Bool.and_true];exact h
 ·cases h
def XT:FnSh:=⟨[.ptr 0 0,.flt,.flt],[some (87,1,.cells [.bool,.rof,.int .i64,.int .i64,.rof,.rof,.flt,.flt,.nil,.nil,.flt])]⟩
def Ri (aoo:D2):SPT:=λa_ c_=>match a_ with
 | [.fl a,.fl b,.bool b_1,.fls b_2,.int b_3,.int b_4,.fls b_5,.fls b_6,.fl b_7,.fl b_8,.fl b_9]=>aoo a b b_1 b_2 b_3 b_4 b_5 b_6 b_7 b_8 b_9 (λr0 r1=>c_ (.flt r0) [⟨87,1,.cells [.bool r1,.rof b_2,vwi b_3,vwi b_4,.rof b_5,.rof b_6,.flt b_7,.flt b_8,.nil,.nil,.flt b_9]⟩])
 | _=>false
abbrev TL (aoo:D2):Fs:=aA XT (Ri aoo)
theorem qu (aoo:D2):FrF 1 (TL aoo):=by
 refine tw λa k h=>?_
 unfold Ri at h ⊢;split at h
 ·rename_i p_a p_b anw ano anp anq anr ans ant anu anE;refine⟨[⟨87,1,.cells [.bool anw,.rof ano,vwi anp,vwi anq,.rof anr,.rof ans,.flt ant,.flt anu,.nil,.nil,.flt anE]⟩],rfl,?_⟩;simp only[lV,lW,decide_true,Bool.and_true];exact h
 ·cases h
def Nv:FnSh:=⟨[.ptr 0 0,.rof,.rof],[some (87,1,.cells [.bool,.rof,.int .i64,.int .i64,.rof,.rof,.flt,.flt,.nil,.nil,.flt])]⟩
def Rh (aox:D0):SPT:=λa_ c_=>match a_ with
 | [.fls a,.fls b,.bool b_1,.fls b_2,.int b_3,.int b_4,.fls b_5,.fls b_6,.fl b_7,.fl b_8,.fl b_9]=>aox a b b_1 b_2 b_3 b_4 b_5 b_6 b_7 b_8 b_9 (λr0 r1=>c_ (.flt r0) [⟨87,1,.cells [.bool r1,.rof b_2,vwi b_3,vwi b_4,.rof b_5,.rof b_6,.flt b_7,.flt b_8,.nil,.nil,.flt b_9]⟩])
 | _=>false
abbrev TK (aox:D0):Fs:=aA Nv (Rh aox)
theorem qt (aox:D0):FrF 1 (TK aox):=by
 refine tw λa k h=>?_
 unfold Rh at h ⊢;split at h
 ·rename_i p_a p_b anw ano anp anq anr ans ant anu anE;refine⟨[⟨87,1,.cells [.bool anw,.rof ano,vwi anp,vwi anq,.rof anr,.rof ans,.flt ant,.flt anu,.nil,.nil,.flt anE]⟩],rfl,?_⟩;simp only[lV,lW,decide_true,Bool.and_true];exact h
 ·cases h
def Xz:FnSh:=⟨[.ptr 0 0,.flt],[some (87,1,.cells [.bool,.rof,.int .i64,.int .i64,.rof,.rof,.flt,.flt,.slw 1,.nil,.flt]),some (23,1,.flts)]⟩
def aeB (SQ4:rT):SPT:=λa_ c_=>match a_ with
 | [.fl x,.bool b,.fls b_1,.int b_2,.int b_3,.fls b_4,.fls b_5,.fl b_6,.fl b_7,.fl b_8,.fls b_9]=>SQ4 x b b_1 b_2 b_3 b_4 b_5 b_6 b_7 b_8 b_9 (λr1=>c_ (.flt x) [⟨87,1,.cells [.bool r1,.rof b_1,vwi b_2,vwi b_3,.rof b_4,.rof b_5,.flt b_6,.flt b_7,.slw 1,.nil,.flt b_8]⟩,⟨23,1,.flts b_9⟩])
 | _=>false
abbrev FQ4 (SQ4:rT):Fs:=aA Xz (aeB SQ4)
theorem dz (SQ4:rT):FrF 1 (FQ4 SQ4):=by
 refine tw λa k h=>?_
 unfold aeB at h ⊢;split at h
 ·rename_i p_x p_b anw ano anp anq anr ans ant anu anE;refine⟨[⟨87,1,.cells [.bool p_b,.rof anw,vwi ano,vwi anp,.rof anq,.rof anr,.flt ans,.flt ant,.slw 1,.nil,.flt anu]⟩,⟨23,1,.flts anE⟩],rfl,?_⟩;simp only[lV,lW,decide_true,Bool.and_true];exact h
 ·cases h
def Xg:FnSh:=⟨[.ptr 0 0,.flt,.flt],[some (87,1,.cells [.bool,.rof,.int .i64,.int .i64,.rof,.rof,.flt,.flt,.slw 1,.nil,.flt]),some (23,1,.flts)]⟩
def Ra (am2:zS):SPT:=λa_ c_=>match a_ with
 | [.fl a,.fl b,.bool b_1,.fls b_2,.int b_3,.int b_4,.fls b_5,.fls b_6,.fl b_7,.fl b_8,.fl b_9,.fls alZ]=>am2 a b b_1 b_2 b_3 b_4 b_5 b_6 b_7 b_8 b_9 alZ (λr0 r1=>c_ (.flt r0) [⟨87,1,.cells [.bool r1,.rof b_2,vwi b_3,vwi b_4,.rof b_5,.rof b_6,.flt b_7,.flt b_8,.slw 1,.nil,.flt b_9]⟩,⟨23,1,.flts alZ⟩])
 | _=>false
abbrev Rt (am2:zS):Fs:=aA Xg (Ra am2)
theorem kv (am2:zS):FrF 1 (Rt am2):=by
 refine tw λa k h=>?_
 unfold Ra at h ⊢;split at h
 ·rename_i p_a p_b anw ano anp anq anr ans ant anu anE aoe;refine⟨[⟨87,1,.cells [.bool anw,.rof ano,vwi anp,vwi anq,.rof anr,.rof ans,.flt ant,.flt anu,.slw 1,.nil,.flt anE]⟩,⟨23,1,.flts aoe⟩],rfl,?_⟩;simp only[lV,lW,decide_true,Bool.and_true];exact h
 ·cases h
def Nt:FnSh:=⟨[.ptr 0 0,.rof,.rof],[some (87,1,.cells [.bool,.rof,.int .i64,.int .i64,.rof,.rof,.flt,.flt,.slw 1,.nil,.flt]),some (23,1,.flts)]⟩
def Rd (aof:DU):SPT:=λa_ c_=>match a_ with
 | [.fls a,.fls b,.bool b_1,.fls b_2,.int b_3,.int b_4,.fls b_5,.fls b_6,.fl b_7,.fl b_8,.fl b_9,.fls alZ]=>aof a b b_1 b_2 b_3 b_4 b_5 b_6 b_7 b_8 b_9 alZ (λr0 r1=>c_ (.flt r0) [⟨87,1,.cells [.bool r1,.rof b_2,vwi b_3,vwi b_4,.rof b_5,.rof b_6,.flt b_7,.flt b_8,.slw 1,.nil,.flt b_9]⟩,⟨23,1,.flts alZ⟩])
 | _=>false
abbrev TH (aof:DU):Fs:=aA Nt (Rd aof)
theorem pO (aof:DU):FrF 1 (TH aof):=by
 refine tw λa k h=>?_
 unfold Rd at h ⊢;split at h
 ·rename_i p_a p_b anw ano anp anq anr ans ant anu anE aoe;refine⟨[⟨87,1,.cells [.bool anw,.rof ano,vwi anp,vwi anq,.rof anr,.rof ans,.flt ant,.flt anu,.slw 1,.nil,.flt anE]⟩,⟨23,1,.flts aoe⟩],rfl,?_⟩;simp only[lV,lW,decide_true,Bool.and_true];exact h
 ·cases h
def XA:FnSh:=⟨[.ptr 0 0,.rof,.slw 1],[some (87,1,.cells [.bool,.rof,.int .i64,.int .i64,.rof,.rof,.flt,.flt,.slw 1,.nil,.flt]),some (23,1,.flts)]⟩
def Rb (aom:DS):SPT:=λa_ c_=>match a_ with
 | [.fls a,.bool b,.fls b_1,.int b_2,.int b_3,.fls b_4,.fls b_5,.fl b_6,.fl b_7,.fl b_8,.fls b_9]=>aom a b b_1 b_2 b_3 b_4 b_5 b_6 b_7 b_8 b_9 (λr0 r1=>c_ (.flt r0) [⟨87,1,.cells [.bool r1,.rof b_1,vwi b_2,vwi b_3,.rof b_4,.rof b_5,.flt b_6,.flt b_7,.slw 1,.nil,.flt b_8]⟩,⟨23,1,.flts b_9⟩])
 | _=>false
abbrev TG (aom:DS):Fs:=aA XA (Rb aom)
theorem oP (aom:DS):FrF 1 (TG aom):=by
 refine tw λa k h=>?_
 unfold Rb at h ⊢;split at h
 ·rename_i p_a p_b anw ano anp anq anr ans ant anu anE;refine⟨[⟨87,1,.cells [.bool p_b,.rof anw,vwi ano,vwi anp,.rof anq,.rof anr,.flt ans,.flt ant,.slw 1,.nil,.flt anu]⟩,⟨23,1,.flts anE⟩],rfl,?_⟩;simp only[lV,lW,decide_true,Bool.and_true];exact h
 ·cases h
def XK:FnSh:=⟨[.ptr 0 0],[some (87,1,.cells [.bool,.rof,.int .i64,.int .i64,.rof,.rof,.flt,.flt,.slw 1,.nil,.flt]),some (23,1,.flts)]⟩
def Rf (aon:DX):SPT:=λa_ c_=>match a_ with
 | [.bool b,.fls b_1,.int b_2,.int b_3,.fls b_4,.fls b_5,.fl b_6,.fl b_7,.fl b_8,.fls b_9]=>aon b b_1 b_2 b_3 b_4 b_5 b_6 b_7 b_8 b_9 (c_ (.bool b) [⟨87,1,.cells [.bool b,.rof b_1,vwi b_2,vwi b_3,.rof b_4,.rof b_5,.flt b_6,.flt b_7,.slw 1,.nil,.flt b_8]⟩,⟨23,1,.flts b_9⟩])
 | _=>false
abbrev TJ (aon:DX):Fs:=aA XK (Rf aon)
theorem pr (aon:DX):FrF 2 (TJ aon):=by
 refine tw λa k h=>?_
 unfold Rf at h ⊢;split at h
 ·rename_i p_b anw ano anp anq anr ans ant anu anE;refine⟨[⟨87,1,.cells [.bool p_b,.rof anw,vwi ano,vwi anp,.rof anq,.rof anr,.flt ans,.flt ant,.slw 1,.nil,.flt anu]⟩,⟨23,1,.flts anE⟩],rfl,?_⟩;simp only[lV,lW,decide_true,Bool.and_true];exact h
 ·cases h
def rJ:FnSh:=⟨[.agg [.rof,.int .i64,.int .i64,.rof],.rof,.flt],[]⟩
def oc (aln:cI):SPT:=λa_ c_=>match a_ with
 | [.fls s_0,.int s_1,.int s_2,.fls s_3,.fls h,.fl r]=>aln s_0 s_1 s_2 s_3 h r (λr0=>c_ (.tup [.val (.pointer none),vwi r0]) []) (λr0 r1 r8 r9 r10=>c_ (.tup [.ptr 0 0,vwi r0]) [⟨87,1,.cells [.bool r1,.rof s_0,vwi s_1,vwi s_2,.rof s_3,.rof h,.flt r,.flt r8,.slw 1,.nil,.flt r9]⟩,⟨23,1,.flts r10⟩])
 | _=>false
abbrev lM (aln:cI):Fs:=aA rJ (oc aln)
def aeW:FnSh:=⟨[.ptr 0 0,.flt],[some (87,1,.cells [.bool,.rof,.int .i64,.int .i64,.rof,.rof,.flt,.flt,.slw 1,.slw 2,.flt]),some (23,1,.flts),some (23,1,.flts)]⟩
def aeA (SQ1:pm):SPT:=λa_ c_=>match a_ with
 | [.fl x,.bool b,.fls b_1,.int b_2,.int b_3,.fls b_4,.fls b_5,.fl b_6,.fl b_7,.fl b_8,.fls b_9,.fls alZ]=>SQ1 x b b_1 b_2 b_3 b_4 b_5 b_6 b_7 b_8 b_9 alZ (λr1=>c_ (.flt x) [⟨87,1,.cells [.bool r1,.rof b_1,vwi b_2,vwi b_3,.rof b_4,.rof b_5,.flt b_6,.flt b_7,.slw 1,.slw 2,.flt b_8]⟩,⟨23,1,.flts b_9⟩,⟨23,1,.flts alZ⟩])
 | _=>false
abbrev FQ1 (SQ1:pm):Fs:=aA aeW (aeA SQ1)
theorem bV (SQ1:pm):FrF 1 (FQ1 SQ1):=by
 refine tw λa k h=>?_
 unfold aeA at h ⊢;split at h
 ·rename_i p_x p_b anw ano anp anq anr ans ant anu anE aoe;refine⟨[⟨87,1,.cells [.bool p_b,.rof anw,vwi ano,vwi anp,.rof anq,.rof anr,.flt ans,.flt ant,.slw 1,.slw 2,.flt anu]⟩,⟨23,1,.flts anE⟩,⟨23,1,.flts aoe⟩],rfl,?_⟩;simp only[lV,lW,decide_true,Bool.and_true];exact h
 ·cases h
def aeV:FnSh:=⟨[.ptr 0 0,.flt,.flt],[some (87,1,.cells [.bool,.rof,.int .i64,.int .i64,.rof,.rof,.flt,.flt,.slw 1,.slw 2,.flt]),some (23,1,.flts),some (23,1,.flts)]⟩
def aez (SQ0:qX):SPT:=λa_ c_=>match a_ with
 | [.fl a,.fl b,.bool b_1,.fls b_2,.int b_3,.int b_4,.fls b_5,.fls b_6,.fl b_7,.fl b_8,.fl b_9,.fls alZ,.fls amY]=>SQ0 a b b_1 b_2 b_3 b_4 b_5 b_6 b_7 b_8 b_9 alZ amY (λr0 r1=>c_ (.flt r0) [⟨87,1,.cells [.bool r1,.rof b_2,vwi b_3,vwi b_4,.rof b_5,.rof b_6,.flt b_7,.flt b_8,.slw 1,.slw 2,.flt b_9]⟩,⟨23,1,.flts alZ⟩,⟨23,1,.flts amY⟩])
 | _=>false
abbrev FQ0 (SQ0:qX):Fs:=aA aeV (aez SQ0)
theorem cS (SQ0:qX):FrF 1 (FQ0 SQ0):=by
 refine tw λa k h=>?_
 unfold aez at h ⊢;split at h
 ·rename_i p_a p_b anw ano anp anq anr ans ant anu anE aoe ark;refine⟨[⟨87,1,.cells [.bool anw,.rof ano,vwi anp,vwi anq,.rof anr,.rof ans,.flt ant,.flt anu,.slw 1,.slw 2,.flt anE]⟩,⟨23,1,.flts aoe⟩,⟨23,1,.flts ark⟩],rfl,?_⟩;simp only[lV,lW,decide_true,Bool.and_true];exact h
 ·cases h
def jZ:FnSh:=⟨[.ptr 0 0],[some (87,1,.cells [.bool,.rof,.int .i64,.int .i64,.rof,.rof,.flt,.flt,.slw 1,.slw 2,.flt]),some (23,1,.flts),some (23,1,.flts)]⟩
def hI (alh:aO):SPT:=λa_ c_=>match a_ with
 | [.bool b,.fls b_1,.int b_2,.int b_3,.fls b_4,.fls b_5,.fl b_6,.fl b_7,.fl b_8,.fls b_9,.fls alZ]=>alh b b_1 b_2 b_3 b_4 b_5 b_6 b_7 b_8 b_9 alZ (c_ (.fn 1000029 [.ptr 0 0]) [⟨87,1,.cells [.bool b,.rof b_1,vwi b_2,vwi b_3,.rof b_4,.rof b_5,.flt b_6,.flt b_7,.slw 1,.slw 2,.flt b_8]⟩,⟨23,1,.flts b_9⟩,⟨23,1,.flts alZ⟩])
 | _=>false
abbrev eK (alh:aO):Fs:=aA jZ (hI alh)
def tT:FnSh:=⟨[.agg [.int .i64,.int .i64,.slw 0],.int .i64],[some (23,1,.flts)]⟩
def pY (alv:eA):SPT:=λa_ c_=>match a_ with
 | [.int m_0,.int m_1,.int i,.fls b]=>alv m_0 m_1 i b (λr0 r1=>c_ (.sl 0 r0 r1) [⟨23,1,.flts b⟩])
 | _=>false
abbrev jI (alv:eA):Fs:=aA tT (pY alv)
def w7:FnSh:=⟨[.agg [.int .i64,.int .i64,.rof],.int .i64],[]⟩
def tc (alE:kB):SPT:=λa_ c_=>match a_ with
 | [.int m_0,.int m_1,.fls m_2,.int j]=>alE m_0 m_1 m_2 j (λr0=>c_ (.slw 0) [⟨23,1,.flts r0⟩])
 | _=>false
abbrev qn (alE:kB):Fs:=aA w7 (tc alE)
def W_:FnSh:=⟨[.ptr 0 0,.sl 1,.slw 2],[some (87,1,.cells [.bool,.rof,.int .i64,.int .i64,.rof,.rof,.flt,.flt,.slw 3,.slw 4,.flt]),some (23,1,.flts),some (23,1,.flts),some (23,1,.flts),some (23,1,.flts)]⟩
def Q_ (anG:DN):SPT:=λa_ c_=>match a_ with
 | [.nat a_0,.nat a_1,.bool b,.fls b_1,.int b_2,.int b_3,.fls b_4,.fls b_5,.fl b_6,.fl b_7,.fl b_8,.fls b_9,.fls alZ,.fls amY,.fls anM]=>anG a_0 a_1 b b_1 b_2 b_3 b_4 b_5 b_6 b_7 b_8 b_9 alZ amY anM (λr0 r1=>c_ (.flt r0) [⟨87,1,.cells [.bool r1,.rof b_1,vwi b_2,vwi b_3,.rof b_4,.rof b_5,.flt b_6,.flt b_7,.slw 3,.slw 4,.flt b_8]⟩,⟨23,1,.flts b_9⟩,⟨23,1,.flts alZ⟩,⟨23,1,.flts amY⟩,⟨23,1,.flts anM⟩])
 | _=>false
abbrev TF (anG:DN):Fs:=aA W_ (Q_ anG)
theorem no (anG:DN):FrF 1 (TF anG):=by
 refine tw λa k h=>?_
 unfold Q_ at h ⊢;split at h
 ·rename_i avl avm p_b anw ano anp anq anr ans ant anu anE aoe ark asI;refine⟨[⟨87,1,.cells [.bool p_b,.rof anw,vwi ano,vwi anp,.rof anq,.rof anr,.flt ans,.flt ant,.slw 3,.slw 4,.flt anu]⟩,⟨23,1,.flts anE⟩,⟨23,1,.flts aoe⟩,⟨23,1,.flts ark⟩,⟨23,1,.flts asI⟩],rfl,?_⟩;simp only[lV,lW,decide_true,Bool.and_true];exact h
 ·cases h
def jS:FnSh:=⟨[.ptr 0 0,.agg [.int .i64,.int .i64,.slw 1],.agg [.int .i64,.int .i64,.rof]],[some (87,1,.cells [.bool,.rof,.int .i64,.int .i64,.rof,.rof,.flt,.flt,.slw 2,.slw 3,.flt]),some (23,1,.flts),some (23,1,.flts),some (23,1,.flts)]⟩
def gD (alq:bP):SPT:=λa_ c_=>match a_ with
 | [.int a_0,.int a_1,.int b_0,.int b_1,.fls b_2,.bool b,.fls b_3,.int b_4,.int b_5,.fls b_6,.fls b_7,.fl b_8,.fl b_9,.fl alZ,.fls amY,.fls anM,.fls an8]=>alq a_0 a_1 b_0 b_1 b_2 b b_3 b_4 b_5 b_6 b_7 b_8 b_9 alZ amY anM an8 (λr2 r14=>c_ (.agg [vwi a_0,vwi b_1,.slw 4]) [⟨87,1,.cells [.bool r2,.rof b_3,vwi b_4,vwi b_5,.rof b_6,.rof b_7,.flt b_8,.flt b_9,.slw 2,.slw 3,.flt alZ]⟩,⟨23,1,.flts amY⟩,⟨23,1,.flts anM⟩,⟨23,1,.flts an8⟩,⟨23,1,.flts r14⟩])
 | _=>false
abbrev eh (alq:bP):Fs:=aA jS (gD alq)
def XI:FnSh:=⟨[.ptr 0 0,.sl 1,.sl 2],[some (87,1,.cells [.bool,.rof,.int .i64,.int .i64,.rof,.rof,.flt,.flt,.slw 3,.slw 4,.flt]),some (23,1,.flts),some (23,1,.flts),some (23,1,.flts),some (23,1,.flts)]⟩
def Re (ap6:DW):SPT:=λa_ c_=>match a_ with
 | [.nat a_0,.nat a_1,.nat b_0,.nat b_1,.bool b,.fls b_2,.int b_3,.int b_4,.fls b_5,.fls b_6,.fl b_7,.fl b_8,.fl b_9,.fls alZ,.fls amY,.fls anM,.fls an8]=>ap6 a_0 a_1 b_0 b_1 b b_2 b_3 b_4 b_5 b_6 b_7 b_8 b_9 alZ amY anM an8 (λr0 r1=>c_ (.flt r0) [⟨87,1,.cells [.bool r1,.rof b_2,vwi b_3,vwi b_4,.rof b_5,.rof b_6,.flt b_7,.flt b_8,.slw 3,.slw 4,.flt b_9]⟩,⟨23,1,.flts alZ⟩,⟨23,1,.flts amY⟩,⟨23,1,.flts anM⟩,⟨23,1,.flts an8⟩])
 | _=>false
abbrev TI (ap6:DW):Fs:=aA XI (Re ap6)
theorem nn (ap6:DW):FrF 1 (TI ap6):=by
 refine tw λa k h=>?_
 unfold Re at h ⊢;split at h
 ·rename_i avl avm awx anw p_b ano anp anq anr ans ant anu anE aoe ark asI aup;refine⟨[⟨87,1,.cells [.bool p_b,.rof ano,vwi anp,vwi anq,.rof anr,.rof ans,.flt ant,.flt anu,.slw 3,.slw 4,.flt anE]⟩,⟨23,1,.flts aoe⟩,⟨23,1,.flts ark⟩,⟨23,1,.flts asI⟩,⟨23,1,.flts aup⟩],rfl,?_⟩;simp only[lV,lW,decide_true,Bool.and_true];exact h
 ·cases h
def eI:FnSh:=⟨[.int .i64,.int .i64,.ptr 0 0,.ptr 1 0,.ptr 2 0],[some (62,1,.cells [.ptr 3 0]),some (30,1,.cells [.int .i64,.int .i64,.slw 4]),some (30,1,.cells [.int .i64,.int .i64,.slw 5]),some (87,1,.cells [.bool,.rof,.int .i64,.int .i64,.rof,.rof,.flt,.flt,.slw 6,.slw 7,.flt]),some (23,1,.flts),some (23,1,.flts),some (23,1,.flts),some (23,1,.flts)]⟩
def cO (alj:aN):SPT:=λa_ c_=>match a_ with
 | [.int i,.int j,.int b,.int b_1,.int b_2,.int b_3,.bool b_4,.fls b_5,.int b_6,.int b_7,.fls b_8,.fls b_9,.fl alZ,.fl amY,.fl anM,.fls an8,.fls apS,.fls apO,.fls aog]=>alj i j b b_1 b_2 b_3 b_4 b_5 b_6 b_7 b_8 b_9 alZ amY anM an8 apS apO aog (λr0 r5=>c_ (.flt r0) [⟨62,1,.cells [.ptr 3 0]⟩,⟨30,1,.cells [vwi b,vwi b_1,.slw 4]⟩,⟨30,1,.cells [vwi b_2,vwi b_3,.slw 5]⟩,⟨87,1,.cells [.bool r5,.rof b_5,vwi b_6,vwi b_7,.rof b_8,.rof b_9,.flt alZ,.flt amY,.slw 6,.slw 7,.flt anM]⟩,⟨23,1,.flts an8⟩,⟨23,1,.flts apS⟩,⟨23,1,.flts apO⟩,⟨23,1,.flts aog⟩])
 | _=>false
abbrev bB (alj:aN):Fs:=aA eI (cO alj)
def iF:FnSh:=⟨[.int .i64,.fn 54 [.ptr 0 0,.ptr 1 0,.ptr 2 0]],[some (62,1,.cells [.ptr 3 0]),some (30,1,.cells [.int .i64,.int .i64,.slw 4]),some (30,1,.cells [.int .i64,.int .i64,.slw 5]),some (87,1,.cells [.bool,.rof,.int .i64,.int .i64,.rof,.rof,.flt,.flt,.slw 6,.slw 7,.flt]),some (23,1,.flts),some (23,1,.flts),some (23,1,.flts),some (23,1,.flts)]⟩
def eZ (alm:br):SPT:=λa_ c_=>match a_ with
 | [.int n,.int b,.int b_1,.int b_2,.int b_3,.bool b_4,.fls b_5,.int b_6,.int b_7,.fls b_8,.fls b_9,.fl alZ,.fl amY,.fl anM,.fls an8,.fls apS,.fls apO,.fls aog]=>alm n b b_1 b_2 b_3 b_4 b_5 b_6 b_7 b_8 b_9 alZ amY anM an8 apS apO aog (λr6 r19=>c_ (.agg [vwi n,vwi n,.slw 8]) [⟨62,1,.cells [.ptr 3 0]⟩,⟨30,1,.cells [vwi b,vwi b_1,.slw 4]⟩,⟨30,1,.cells [vwi b_2,vwi b_3,.slw 5]⟩,⟨87,1,.cells [.bool r6,.rof b_5,vwi b_6,vwi b_7,.rof b_8,.rof b_9,.flt alZ,.flt amY,.slw 6,.slw 7,.flt anM]⟩,⟨23,1,.flts an8⟩,⟨23,1,.flts apS⟩,⟨23,1,.flts apO⟩,⟨23,1,.flts aog⟩,⟨23,1,.flts r19⟩])
 | _=>false
abbrev dx (alm:br):Fs:=aA iF (eZ alm)
def jb:FnSh:=⟨[.ptr 0 0],[some (87,1,.cells [.bool,.rof,.int .i64,.int .i64,.rof,.rof,.flt,.flt,.slw 1,.slw 2,.flt]),some (23,1,.flts),some (23,1,.flts)]⟩
def fu (ald:aG):SPT:=λa_ c_=>match a_ with
 | [.bool b,.fls b_1,.int b_2,.int b_3,.fls b_4,.fls b_5,.fl b_6,.fl b_7,.fl b_8,.fls b_9,.fls alZ]=>ald b b_1 b_2 b_3 b_4 b_5 b_6 b_7 b_8 b_9 alZ (λr0 r1 r2 r13=>c_ (.agg [vwi r0,vwi r1,.slw 3]) [⟨87,1,.cells [.bool r2,.rof b_1,vwi b_2,vwi b_3,.rof b_4,.rof b_5,.flt b_6,.flt b_7,.slw 1,.slw 2,.flt b_8]⟩,⟨23,1,.flts b_9⟩,⟨23,1,.flts alZ⟩,⟨23,1,.flts r13⟩])
 | _=>false
abbrev dG (ald:aG):Fs:=aA jb (fu ald)
def XW:FnSh:=⟨[.ptr 0 0],[some (87,1,.cells [.bool,.rof,.int .i64,.int .i64,.rof,.rof,.flt,.flt,.slw 1,.slw 2,.flt]),some (23,1,.flts),some (23,1,.flts)]⟩
def Rj (ap7:D4):SPT:=λa_ c_=>match a_ with
 | [.bool b,.fls b_1,.int b_2,.int b_3,.fls b_4,.fls b_5,.fl b_6,.fl b_7,.fl b_8,.fls b_9,.fls alZ]=>ap7 b b_1 b_2 b_3 b_4 b_5 b_6 b_7 b_8 b_9 alZ (c_ (.bool b) [⟨87,1,.cells [.bool b,.rof b_1,vwi b_2,vwi b_3,.rof b_4,.rof b_5,.flt b_6,.flt b_7,.slw 1,.slw 2,.flt b_8]⟩,⟨23,1,.flts b_9⟩,⟨23,1,.flts alZ⟩])
 | _=>false
abbrev TM (ap7:D4):Fs:=aA XW (Rj ap7)
theorem oQ (ap7:D4):FrF 2 (TM ap7):=by
 refine tw λa k h=>?_
 unfold Rj at h ⊢;split at h
 ·rename_i p_b anw ano anp anq anr ans ant anu anE aoe;refine⟨[⟨87,1,.cells [.bool p_b,.rof anw,vwi ano,vwi anp,.rof anq,.rof anr,.flt ans,.flt ant,.slw 1,.slw 2,.flt anu]⟩,⟨23,1,.flts anE⟩,⟨23,1,.flts aoe⟩],rfl,?_⟩;simp only[lV,lW,decide_true,Bool.and_true];exact h
 ·cases h
def jm:FnSh:=⟨[.ptr 0 0,.slw 1,.agg [.int .i64,.int .i64,.slw 2]],[some (87,1,.cells [.bool,.rof,.int .i64,.int .i64,.rof,.rof,.flt,.flt,.slw 3,.slw 4,.flt]),some (23,1,.flts),some (23,1,.flts),some (23,1,.flts),some (23,1,.flts)]⟩
def fR (alf:aI):SPT:=λa_ c_=>match a_ with
 | [.int p_0,.int p_1,.bool b,.fls b_1,.int b_2,.int b_3,.fls b_4,.fls b_5,.fl b_6,.fl b_7,.fl b_8,.fls b_9,.fls alZ,.fls amY,.fls anM]=>alf p_0 p_1 b b_1 b_2 b_3 b_4 b_5 b_6 b_7 b_8 b_9 alZ amY anM (λr0 r1 r2=>c_ (.tup [.agg [.nil,vwi r0,vwi r1,.nil],vwi r2]) [⟨87,1,.cells [.bool b,.rof b_1,vwi b_2,vwi b_3,.rof b_4,.rof b_5,.flt b_6,.flt b_7,.slw 3,.slw 4,.flt b_8]⟩,⟨23,1,.flts b_9⟩,⟨23,1,.flts alZ⟩,⟨23,1,.flts amY⟩,⟨23,1,.flts anM⟩]) (λr2=>c_ (.tup [.agg [.slw 1,vwi p_0,vwi p_1,.slw 2],vwi r2]) [⟨87,1,.cells [.bool b,.rof b_1,vwi b_2,vwi b_3,.rof b_4,.rof b_5,.flt b_6,.flt b_7,.slw 3,.slw 4,.flt b_8]⟩,⟨23,1,.flts b_9⟩,⟨23,1,.flts alZ⟩,⟨23,1,.flts amY⟩,⟨23,1,.flts anM⟩])
 | _=>false
abbrev dN (alf:aI):Fs:=aA jm (fR alf)
def hK:FnSh:=⟨[.agg [.rof,.int .i64,.int .i64,.rof],.rof,.flt,.flt,.fn 28 []],[]⟩
def nh (alU:fL):SPT:=λa_ c_=>match a_ with
 | [.fls s_0,.int s_1,.int s_2,.fls s_3,.fls h,.fl r,.fl z]=>alU s_0 s_1 s_2 s_3 h r z (λr0 r1 r2 r3 r4 r5=>c_ (.tup [.agg [.nil,vwi r0,vwi r1,.nil],.agg [.flt r2,.flt r3,.flt r4,.nil],vwi r5]) []) (λr0 r1 r2 r3 r4 r5 r6=>c_ (.tup [.agg [.nil,vwi r0,vwi r1,.nil],.agg [.flt r2,.flt r3,.flt r4,.slw 0],vwi r5]) [⟨23,1,.flts r6⟩]) (λr0 r1 r2 r3 r4 r5 r6 r7 r8=>c_ (.tup [.agg [.slw 0,vwi r0,vwi r1,.slw 1],.agg [.flt r2,.flt r3,.flt r4,.slw 2],vwi r5]) [⟨23,1,.flts r6⟩,⟨23,1,.flts r7⟩,⟨23,1,.flts r8⟩])
 | _=>false
abbrev kL (alU:fL):Fs:=aA hK (nh alU)
def sG:FnSh:=⟨[.agg [.rof,.int .i64,.int .i64,.rof],.rof,.flt,.flt],[]⟩
def o4 (alB:dI):SPT:=λa_ c_=>match a_ with
 | [.fls s_0,.int s_1,.int s_2,.fls s_3,.fls h,.fl r,.fl z]=>alB s_0 s_1 s_2 s_3 h r z (λr0 r1 r2 r3 r4 r5=>c_ (.tup [.agg [.nil,vwi r0,vwi r1,.nil],.agg [.flt r2,.flt r3,.flt r4,.nil],vwi r5]) []) (λr0 r1 r2 r3 r4 r5 r6=>c_ (.tup [.agg [.nil,vwi r0,vwi r1,.nil],.agg [.flt r2,.flt r3,.flt r4,.slw 0],vwi r5]) [⟨23,1,.flts r6⟩]) (λr0 r1 r2 r3 r4 r5 r6 r7 r8=>c_ (.tup [.agg [.slw 0,vwi r0,vwi r1,.slw 1],.agg [.flt r2,.flt r3,.flt r4,.slw 2],vwi r5]) [⟨23,1,.flts r6⟩,⟨23,1,.flts r7⟩,⟨23,1,.flts r8⟩])
 | _=>false
abbrev iR (alB:dI):Fs:=aA sG (o4 alB)
def XE:FnSh:=⟨[],[]⟩
def YY (aow:Gz):SPT:=λa_ c_=>match a_ with
 | []=>aow (λr0=>c_ (.bool r0) [])
 | _=>false
abbrev Z5 (aow:Gz):Fs:=aA XE (YY aow)
def Q1:FnSh:=⟨[.flt],[]⟩
def N8 (apI:Bx):SPT:=λa_ c_=>match a_ with
 | [.fl x]=>apI x (λr0=>c_ (vwu r0) [])
 | _=>false
abbrev OV (apI:Bx):Fs:=aA Q1 (N8 apI)
def QL:FnSh:=⟨[.flt],[]⟩
def NP (amV:yL):SPT:=λa_ c_=>match a_ with
 | [.fl x]=>amV x (λr0 r1 r2=>c_ (.tup [.bool r0,vwi r1,vwu r2]) [])
 | _=>false
abbrev OC (amV:yL):Fs:=aA QL (NP amV)
def QT:FnSh:=⟨[.int .u64,.int .i64],[]⟩
def N0 (amZ:yN):SPT:=λa_ c_=>match a_ with
 | [.int m,.int e]=>amZ m e (λr0 r1=>c_ (.tup [vwu r0,vwi r1]) [])
 | _=>false
abbrev ON (amZ:yN):Fs:=aA QT (N0 amZ)
def AR:FnSh:=⟨[.flt],[]⟩
def NX (apE:Bo):SPT:=λa_ c_=>match a_ with
 | [.fl x]=>apE x (λr0 r1 r2 r3=>c_ (.tup [.agg [.bool r0,vwu r1,vwi r2],vwi r3]) [])
 | _=>false
abbrev OK (apE:Bo):Fs:=aA AR (NX apE)
def Xa:FnSh:=⟨[.slw 0],[some (107,1,.ints .u32)]⟩
def Yr (alN:ks):SPT:=λa_ c_=>match a_ with
 | [.ints b]=>alN b (λr0=>c_ (.sl 0 0 r0) [⟨107,1,.ints .u32 b⟩])
 | _=>false
abbrev xU (alN:ks):Fs:=aA Xa (Yr alN)
def Yk:FnSh:=⟨[.int .u64],[]⟩
def ZF (ann:yv):SPT:=λa_ c_=>match a_ with
 | [.int n]=>ann n (λr0=>c_ (vws r0) [])
 | _=>false
abbrev RG (ann:yv):Fs:=aA Yk (ZF ann)
def Q4:FnSh:=⟨[.roi .u32],[]⟩
def Ob (apK:BA):SPT:=λa_ c_=>match a_ with
 | [.ints m]=>apK m (λr0=>c_ (vws r0) [])
 | _=>false
abbrev OZ (apK:BA):Fs:=aA Q4 (Ob apK)
def XG:FnSh:=⟨[.ptr 0 0,.bool,.roi .u32],[some (55,1,.cells [.bool,.nil])]⟩
def Y0 (amb:nA):SPT:=λa_ c_=>match a_ with
 | [.bool neg,.ints m,.bool b]=>amb neg m b (λr0 r1=>c_ (.ptr 0 0) [⟨55,1,.cells [.bool r0,vws r1]⟩])
 | _=>false
abbrev C2 (amb:nA):Fs:=aA XG (Y0 amb)
def X7:FnSh:=⟨[.ptr 0 0,.int .u64],[some (55,1,.cells [.bool,.nil])]⟩
def Zq (aq1:GM):SPT:=λa_ c_=>match a_ with
 | [.int n,.bool b]=>aq1 n b (λr0 r1=>c_ (.ptr 0 0) [⟨55,1,.cells [.bool r0,vws r1]⟩])
 | _=>false
abbrev aaq (aq1:GM):Fs:=aA X7 (Zq aq1)
def QI:FnSh:=⟨[.ptr 0 0,.bool,.slw 1],[some (55,1,.cells [.bool,.roi .u32]),some (107,1,.ints .u32)]⟩
def NM (apz:Be):SPT:=λa_ c_=>match a_ with
 | [.bool neg,.bool b,.ints b_1,.ints b_2]=>apz neg b b_1 b_2 (λr0 r1 r2=>c_ (.ptr 0 0) [⟨55,1,.cells [.bool r0,.sl 1 r1 r2]⟩,⟨107,1,.ints .u32 b_2⟩])
 | _=>false
abbrev Oz (apz:Be):Fs:=aA QI (NM apz)
def QF:FnSh:=⟨[.ptr 0 0,.ptr 0 0],[some (55,1,.cells [.bool,.roi .u32])]⟩
def NJ (apw:Ba):SPT:=λa_ c_=>match a_ with
 | [.bool b,.ints b_1]=>apw b b_1 (λr0 r1=>c_ (.ptr 0 0) [⟨55,1,.cells [.bool r0,vws r1]⟩])
 | _=>false
abbrev Ow (apw:Ba):Fs:=aA QF (NJ apw)
def Q7:FnSh:=⟨[.flt],[]⟩
def Oe (anI:BD):SPT:=λa_ c_=>match a_ with
 | [.fl x]=>anI x (λr0 r1 r2=>c_ (.agg [.ptr 0 0,vwi r0]) [⟨55,1,.cells [.bool r1,vws r2]⟩])
 | _=>false
abbrev O2 (anI:BD):Fs:=aA Q7 (Oe anI)
def QR:FnSh:=⟨[.roi .u32,.roi .u32],[]⟩
def NV (apD:Bm):SPT:=λa_ c_=>match a_ with
 | [.ints a,.ints b]=>apD a b (λr0=>c_ (vws r0) [])
 | _=>false
abbrev OI (apD:Bm):Fs:=aA QR (NV apD)
def X9:FnSh:=⟨[.ptr 0 0,.ptr 1 0,.ptr 2 0],[some (55,1,.cells [.bool,.nil]),some (55,1,.cells [.bool,.roi .u32]),some (55,1,.cells [.bool,.roi .u32])]⟩
def Zs (aq3:GO):SPT:=λa_ c_=>match a_ with
 | [.bool b,.bool b_1,.ints b_2,.bool b_3,.ints b_4]=>aq3 b b_1 b_2 b_3 b_4 (λr0 r1=>c_ (.ptr 0 0) [⟨55,1,.cells [.bool r0,vws r1]⟩,⟨55,1,.cells [.bool b_1,vws b_2]⟩,⟨55,1,.cells [.bool b_3,vws b_4]⟩])
 | _=>false
abbrev aas (aq3:GO):Fs:=aA X9 (Zs aq3)
def Xj:FnSh:=⟨[.agg [.ptr 0 0,.int .i64],.agg [.ptr 1 0,.int .i64]],[some (55,1,.cells [.bool,.roi .u32]),some (55,1,.cells [.bool,.roi .u32])]⟩
def YC (anK:Gw):SPT:=λa_ c_=>match a_ with
 | [.int x,.int y,.bool b,.ints b_1,.bool b_2,.ints b_3]=>anK x y b b_1 b_2 b_3 (λr0 r5 r6=>c_ (.agg [.ptr 2 0,vwi r0]) [⟨55,1,.cells [.bool b,vws b_1]⟩,⟨55,1,.cells [.bool b_2,vws b_3]⟩,⟨55,1,.cells [.bool r5,vws r6]⟩])
 | _=>false
abbrev ZU (anK:Gw):Fs:=aA Xj (YC anK)
def FA:FnSh:=⟨[.ptr 0 0,.int .i64],[some (55,1,.cells [.bool,.nil])]⟩
def Zu (aq5:GQ):SPT:=λa_ c_=>match a_ with
 | [.int n,.bool b]=>aq5 n b (λr0 r1=>c_ (.ptr 0 0) [⟨55,1,.cells [.bool r0,vws r1]⟩])
 | _=>false
abbrev aau (aq5:GQ):Fs:=aA FA (Zu aq5)
def QO:FnSh:=⟨[.int .i64],[]⟩
def NS (apB:Bj):SPT:=λa_ c_=>match a_ with
 | [.int n]=>apB n (λr0 r1=>c_ (.ptr 0 0) [⟨55,1,.cells [.bool r0,vws r1]⟩])
 | _=>false
abbrev OE (apB:Bj):Fs:=aA QO (NS apB)
def QM:FnSh:=⟨[.int .i64],[]⟩
def NQ (ank:Bi):SPT:=λa_ c_=>match a_ with
 | [.int e]=>ank e (λr1 r2=>c_ (.agg [.ptr 0 0,vwi e]) [⟨55,1,.cells [.bool r1,vws r2]⟩])
 | _=>false
abbrev OD (ank:Bi):Fs:=aA QM (NQ ank)
def Ye:FnSh:=⟨[.ptr 0 0,.bool,.slw 1],[some (55,1,.cells [.bool,.nil]),some (107,1,.ints .u32)]⟩
def Zz (aoR:zZ):SPT:=λa_ c_=>match a_ with
 | [.bool neg,.bool b,.ints b_1]=>aoR neg b b_1 (λr0 r1 r2=>c_ (.ptr 0 0) [⟨55,1,.cells [.bool r0,.sl 1 r1 r2]⟩,⟨107,1,.ints .u32 b_1⟩])
 | _=>false
abbrev RD (aoR:zZ):Fs:=aA Ye (Zz aoR)
def QD:FnSh:=⟨[.ptr 0 0,.ptr 1 0],[some (55,1,.cells [.bool,.nil]),some (55,1,.cells [.bool,.roi .u32])]⟩
def NH (apv:A_):SPT:=λa_ c_=>match a_ with
 | [.bool b,.bool b_1,.ints b_2]=>apv b b_1 b_2 (λr0 r1=>c_ (.ptr 0 0) [⟨55,1,.cells [.bool r0,vws r1]⟩,⟨55,1,.cells [.bool b_1,vws b_2]⟩])
 | _=>false
abbrev Ou (apv:A_):Fs:=aA QD (NH apv)
def Xl:FnSh:=⟨[.agg [.ptr 0 0,.int .i64]],[some (55,1,.cells [.bool,.roi .u32])]⟩
def YG (aob:zT):SPT:=λa_ c_=>match a_ with
 | [.int x,.bool b,.ints b_1]=>aob x b b_1 (λr3 r4=>c_ (.agg [.ptr 1 0,vwi x]) [⟨55,1,.cells [.bool b,vws b_1]⟩,⟨55,1,.cells [.bool r3,vws r4]⟩])
 | _=>false
abbrev Ru (aob:zT):Fs:=aA Xl (YG aob)
def Yf:FnSh:=⟨[.ptr 0 0],[some (55,1,.cells [.bool,.roi .u32])]⟩
def ZA (aoy:z6):SPT:=λa_ c_=>match a_ with
 | [.bool b,.ints b_1]=>aoy b b_1 (λr0=>c_ (vwi r0) [⟨55,1,.cells [.bool b,vws b_1]⟩])
 | _=>false
abbrev RE (aoy:z6):Fs:=aA Yf (ZA aoy)
def QY:FnSh:=⟨[.roi .u32,.int .u64],[]⟩
def N5 (apG:Bu):SPT:=λa_ c_=>match a_ with
 | [.ints m,.int n]=>apG m n (λr0=>c_ (vws r0) [])
 | _=>false
abbrev OR (apG:Bu):Fs:=aA QY (N5 apG)
def QC:FnSh:=⟨[.ptr 0 0,.ptr 1 0,.int .u64],[some (55,1,.cells [.bool,.nil]),some (55,1,.cells [.bool,.roi .u32])]⟩
def NG (apu:A9):SPT:=λa_ c_=>match a_ with
 | [.int n,.bool b,.bool b_1,.ints b_2]=>apu n b b_1 b_2 (λr0 r1=>c_ (.ptr 0 0) [⟨55,1,.cells [.bool r0,vws r1]⟩,⟨55,1,.cells [.bool b_1,vws b_2]⟩])
 | _=>false
abbrev Ot (apu:A9):Fs:=aA QC (NG apu)
def XR:FnSh:=⟨[.agg [.ptr 0 0,.int .i64],.int .i64],[some (55,1,.cells [.bool,.roi .u32])]⟩
def Y_ (aqi:GB):SPT:=λa_ c_=>match a_ with
 | [.int x,.int e,.bool b,.ints b_1]=>aqi x e b b_1 (c_ (.agg [.ptr 0 0,vwi x]) [⟨55,1,.cells [.bool b,vws b_1]⟩]) (λr3 r4=>c_ (.agg [.ptr 1 0,vwi e]) [⟨55,1,.cells [.bool b,vws b_1]⟩,⟨55,1,.cells [.bool r3,vws r4]⟩])
 | _=>false
abbrev aac (aqi:GB):Fs:=aA XR (Y_ aqi)
def QZ:FnSh:=⟨[.roi .u32,.roi .u32],[]⟩
def N6 (apH:Bv):SPT:=λa_ c_=>match a_ with
 | [.ints a,.ints b]=>apH a b (λr0=>c_ (vws r0) [])
 | _=>false
abbrev OT (apH:Bv):Fs:=aA QZ (N6 apH)
def QK:FnSh:=⟨[.roi .u32,.roi .u32],[]⟩
def NO (apA:Bh):SPT:=λa_ c_=>match a_ with
 | [.ints a,.ints b]=>apA a b (λr0=>c_ (vwi r0) [])
 | _=>false
abbrev OB (apA:Bh):Fs:=aA QK (NO apA)
def QS:FnSh:=⟨[.roi .u32,.roi .u32],[]⟩
def NY (aoZ:Bp):SPT:=λa_ c_=>match a_ with
 | [.ints a,.ints b]=>aoZ a b (λr0=>c_ (vws r0) [])
 | _=>false
abbrev OL (aoZ:Bp):Fs:=aA QS (NY aoZ)
def X_:FnSh:=⟨[.ptr 0 0,.ptr 1 0,.ptr 2 0,.bool],[some (55,1,.cells [.bool,.nil]),some (55,1,.cells [.bool,.roi .u32]),some (55,1,.cells [.bool,.roi .u32])]⟩
def Zt (aq4:GP):SPT:=λa_ c_=>match a_ with
 | [.bool turn,.bool b,.bool b_1,.ints b_2,.bool b_3,.ints b_4]=>aq4 turn b b_1 b_2 b_3 b_4 (λr0 r1=>c_ (.ptr 0 0) [⟨55,1,.cells [.bool r0,vws r1]⟩,⟨55,1,.cells [.bool b_1,vws b_2]⟩,⟨55,1,.cells [.bool b_3,vws b_4]⟩])
 | _=>false
abbrev aat (aq4:GP):Fs:=aA X_ (Zt aq4)
def X3:FnSh:=⟨[.ptr 0 0,.ptr 1 0,.ptr 2 0],[some (55,1,.cells [.bool,.nil]),some (55,1,.cells [.bool,.roi .u32]),some (55,1,.cells [.bool,.roi .u32])]⟩
def Zl (ap8:GK):SPT:=λa_ c_=>match a_ with
 | [.bool b,.bool b_1,.ints b_2,.bool b_3,.ints b_4]=>ap8 b b_1 b_2 b_3 b_4 (λr0 r1=>c_ (.ptr 0 0) [⟨55,1,.cells [.bool r0,vws r1]⟩,⟨55,1,.cells [.bool b_1,vws b_2]⟩,⟨55,1,.cells [.bool b_3,vws b_4]⟩])
 | _=>false
abbrev aan (ap8:GK):Fs:=aA X3 (Zl ap8)
def Xc:FnSh:=⟨[.agg [.ptr 0 0,.int .i64],.agg [.ptr 1 0,.int .i64]],[some (55,1,.cells [.bool,.roi .u32]),some (55,1,.cells [.bool,.roi .u32])]⟩
def Yw (aoa:zR):SPT:=λa_ c_=>match a_ with
 | [.int x,.int y,.bool b,.ints b_1,.bool b_2,.ints b_3]=>aoa x y b b_1 b_2 b_3 (c_ (.agg [.ptr 1 0,vwi y]) [⟨55,1,.cells [.bool b,vws b_1]⟩,⟨55,1,.cells [.bool b_2,vws b_3]⟩]) (c_ (.agg [.ptr 0 0,vwi x]) [⟨55,1,.cells [.bool b,vws b_1]⟩,⟨55,1,.cells [.bool b_2,vws b_3]⟩]) (λr0 r5 r6=>c_ (.agg [.ptr 2 0,vwi r0]) [⟨55,1,.cells [.bool b,vws b_1]⟩,⟨55,1,.cells [.bool b_2,vws b_3]⟩,⟨55,1,.cells [.bool r5,vws r6]⟩])
 | _=>false
abbrev Rs (aoa:zR):Fs:=aA Xc (Yw aoa)
def Xo:FnSh:=⟨[.agg [.ptr 0 0,.int .i64],.agg [.ptr 1 0,.int .i64]],[some (55,1,.cells [.bool,.roi .u32]),some (55,1,.cells [.bool,.roi .u32])]⟩
def YJ (aol:Gx):SPT:=λa_ c_=>match a_ with
 | [.int x,.int y,.bool b,.ints b_1,.bool b_2,.ints b_3]=>aol x y b b_1 b_2 b_3 (λr0=>c_ (vwi r0) [⟨55,1,.cells [.bool b,vws b_1]⟩,⟨55,1,.cells [.bool b_2,vws b_3]⟩])
 | _=>false
abbrev ZY (aol:Gx):Fs:=aA Xo (YJ aol)
def QB:FnSh:=⟨[.ptr 0 0,.ptr 1 0],[some (55,1,.cells [.bool,.nil]),some (55,1,.cells [.bool,.roi .u32])]⟩
def NF (apt:A8):SPT:=λa_ c_=>match a_ with
 | [.bool b,.bool b_1,.ints b_2]=>apt b b_1 b_2 (λr0 r1=>c_ (.ptr 0 0) [⟨55,1,.cells [.bool r0,vws r1]⟩,⟨55,1,.cells [.bool b_1,vws b_2]⟩])
 | _=>false
abbrev Oq (apt:A8):Fs:=aA QB (NF apt)
def XD:FnSh:=⟨[.agg [.ptr 0 0,.int .i64]],[some (55,1,.cells [.bool,.roi .u32])]⟩
def YX (aov:Gy):SPT:=λa_ c_=>match a_ with
 | [.int x,.bool b,.ints b_1]=>aov x b b_1 (λr3 r4=>c_ (.agg [.ptr 1 0,vwi x]) [⟨55,1,.cells [.bool b,vws b_1]⟩,⟨55,1,.cells [.bool r3,vws r4]⟩])
 | _=>false
abbrev Z4 (aov:Gy):Fs:=aA XD (YX aov)
def IH:FnSh:=⟨[.int .u64,.int .u64,.int .u64,.int .u64],[]⟩
theorem abO (w:World) (v:Value):Calls Tryz.prog 77 #[.nilIface,v] w λe w'=>e=.returned v/\w'=w:=
 abP (P:=Tryz.prog) (fc:=77) (fn:=Tryz.f77) (by kernel_rfl) (by kernel_rfl) (by kernel_rfl) rfl rfl rfl rfl rfl rfl rfl rfl rfl rfl rfl rfl rfl rfl rfl rfl rfl rfl rfl (λ_=>rfl) (λ_=>by kernel_rfl) w v
theorem aj4:DD Tryz.prog 76:=
 UX (P:=Tryz.prog) (g:=76) (fc:=77) (fg:=Tryz.f76) (ff:=Tryz.f77) (by kernel_rfl) (by kernel_rfl) (by kernel_rfl) (by kernel_rfl) rfl (by kernel_rfl) (by kernel_rfl) (by kernel_rfl) (by kernel_rfl) (by kernel_rfl) rfl rfl rfl rfl rfl rfl rfl rfl rfl rfl rfl (by kernel_rfl) (by kernel_rfl) abO
theorem hD_:∀ g,g<1000000->am (2000000+g)=true->DD Tryz.prog g:=by
 intro g hg h;have e:g=76:=by unfold am at h; simp at h; omega
 rcases e with rfl
 exact aj4
end Go.Proofs.YtldenpmpmifnlaaGreatDoor
end
