/-
  THE MEANINGS, as specifications (written by program).
  Conditions: none.
-/
import Derived.Test.YteifemaagdeomaaGreatDoorGp
import Derived.Test.YteifemaagdeomaaGreatDoorMachT
import Derived.Test.YteifemaagdeomaaGreatDoorProg
set_option linter.unusedSimpArgs false
set_option linter.unusedVariables false
section
namespace Go.Proofs.YteifemaagdeomaaGreatDoor
open Go Go.Mach Go.Proofs
set_option maxRecDepth 50000
abbrev KV:=V->List Blk->Bool
abbrev SPT:=List Atom->KV->Bool
noncomputable abbrev Pg:Program:=Tryz.prog
def vqs:Nat → List V → List V
  | 0,t=>t
  | n+1,t=>.any::vqs n t
abbrev vwi (z:Int):V:=.int .i64 z
abbrev vwu (z:Int):V:=.int .u64 z
abbrev vwv (z:Int):V:=.int .u32 z
abbrev vwr (l:LI):V:=.roi .u64 l
abbrev vws (l:LI):V:=.roi .u32 l
theorem aJ {p:Nat → Prop} (h:p 0):∀ i,i<1 → p i
 | 0,_=>h
 | _+1,g=>by omega
theorem iL {p:Nat → Prop} (h:p 0) (h1:p 1):∀ i,i<2 → p i
 | 0,_=>h
 | 1,_=>h1
 | _+2,g=>by omega
def sqs:Nat → List Sh → List Sh
 | 0,t=>t
 | n+1,t=>.any::sqs n t
def aB:Nat->Bool:=λg=>g==150||g==140||g==53||g==207||g==185||g==225||g==236||g==74||g==23||g==34||g==35||g==56||g==51||g==50||g==65||g==61||g==60||g==59||g==111||g==126||g==108||g==110||g==123||g==125||g==159||g==133||g==195||g==162||g==134||g==118||g==191||g==232||g==226||g==145||g==182||g==183||g==1000238||g==1000204||g==1000203||g==2000115||g==3000059||g==3000079||g==3000064||g==4000129||g==4000077
theorem gfV (N:Nat) {l:List (Nat × Fs)} {f:Nat} {sh:FnSh} {S:List Atom → (V → List Blk → Bool) → Bool} (ho:wz Pg (ao l)) (base:Nat) (h:∀ a k,S a k=true → ∃ H,sh.heap a=H.map some ∧ H.length=base ∧ qv ⟨Pg,ao l,aB,N⟩ (λ_=>none) f (sh.args a) H k=true) (h0:(l.all λp=>mdR aB p.1==0)=true:=by kernel_rfl) (hn:(lps Pg f).length=0:=by kernel_rfl):ab Pg f (av sh S):=
 bH (cx:=⟨Pg,ao l,aB,N⟩) (aD ho h0) sh S (λ_=>none) 0 base hn (λi hi=>by omega) h
theorem ggV (N:Nat) {l:List (Nat × Fs)} {f:Nat} {sh:FnSh} {S:List Atom → (V → List Blk → Bool) → Bool} (ho:OS ⟨Pg,ao l,aB,N⟩) (base:Nat) (h:∀ a k,S a k=true → ∃ H,sh.heap a=H.map some ∧ H.length=base ∧ qv ⟨Pg,ao l,aB,N⟩ (λ_=>none) f (sh.args a) H k=true) (hn:(lps Pg f).length=0:=by kernel_rfl):ab Pg f (av sh S):=
 bH (cx:=⟨Pg,ao l,aB,N⟩) ho sh S (λ_=>none) 0 base hn (λi hi=>by omega) h
theorem gfZ (N:Nat) {l:List (Nat × Fs)} {f:Nat} {sh:FnSh} {S:List Atom → (V → List Blk → Bool) → Bool} (md:Bool) (ho:wz Pg (ao l)) (base:Nat) (h:∀ a k,S a k=true → ∃ H,sh.heap a=H.map some ∧ H.length=base ∧ qw md ⟨Pg,ao l,aB,N⟩ (λ_=>none) f (sh.args a) H k=true) (h0:(l.all λp=>mdR aB p.1==0)=true:=by kernel_rfl) (hn:(lps Pg f).length=0:=by kernel_rfl):ab Pg f (av sh S):=
 aT (md:=md) (cx:=⟨Pg,ao l,aB,N⟩) (aD ho h0) sh S (λ_=>none) 0 base hn (λi hi=>by omega) h
theorem ggZ (N:Nat) {l:List (Nat × Fs)} {f:Nat} {sh:FnSh} {S:List Atom → (V → List Blk → Bool) → Bool} (md:Bool) (ho:OS ⟨Pg,ao l,aB,N⟩) (base:Nat) (h:∀ a k,S a k=true → ∃ H,sh.heap a=H.map some ∧ H.length=base ∧ qw md ⟨Pg,ao l,aB,N⟩ (λ_=>none) f (sh.args a) H k=true) (hn:(lps Pg f).length=0:=by kernel_rfl):ab Pg f (av sh S):=
 aT (md:=md) (cx:=⟨Pg,ao l,aB,N⟩) ho sh S (λ_=>none) 0 base hn (λi hi=>by omega) h
def aks:FnSh:=⟨[.fb],[]⟩
def afP (avm:wG):SPT:=λa_ c_=>match a_ with
 | [.nat a0]=>avm a0 (λr0=>c_ (vwu r0) [])
 | _=>false
abbrev Tz (avm:wG):Fs:=av aks (afP avm)
def XA:FnSh:=⟨[.litI .i64 0],[]⟩
def PI (at4:ov):SPT:=λa_ c_=>match a_ with
 | []=>at4 (λr0 r1 r2=>c_ (.agg [vwu r0,vwi r1,vwi r2]) [])
 | _=>false
abbrev CE (at4:ov):Fs:=av XA (PI at4)
def akH:FnSh:=⟨[.agg [.int .u64,.int .i64,.int .i64]],[]⟩
def af2 (aws:BM):SPT:=λa_ c_=>match a_ with
 | [.int f_0,.int f_1,.int f_2]=>aws f_0 f_1 f_2 (λr0=>c_ (vwu r0) [])
 | _=>false
abbrev TJ (aws:BM):Fs:=av akH (af2 aws)
def akc:FnSh:=⟨[.agg [.int .u64,.int .i64,.int .i64]],[]⟩
def afy (awr:BD):SPT:=λa_ c_=>match a_ with
 | [.int f_0,.int f_1,.int f_2]=>awr f_0 f_1 f_2 (λr0=>c_ (vwu r0) [])
 | _=>false
abbrev Tp (awr:BD):Fs:=av akc (afy awr)
def akb:FnSh:=⟨[.int .u64,.agg [.int .u64,.int .i64,.int .i64]],[]⟩
def afx (ayu:G8):SPT:=λa_ c_=>match a_ with
 | [.int b,.int f_0,.int f_1,.int f_2]=>ayu b f_0 f_1 f_2 (λr0=>c_ (.bool r0) [])
 | _=>false
abbrev Yc (ayu:G8):Fs:=av akb (afx ayu)
def ajY:FnSh:=⟨[.agg [.int .u64,.int .i64,.int .i64]],[]⟩
def afk (atB:tk):SPT:=λa_ c_=>match a_ with
 | [.int f_0,.int f_1,.int f_2]=>atB f_0 f_1 f_2 (λr0=>c_ (vwu r0) [])
 | _=>false
abbrev Ki (atB:tk):Fs:=av ajY (afk atB)
def akK:FnSh:=⟨[.agg [.int .u64,.int .i64,.int .i64]],[]⟩
def af5 (ayS:HA):SPT:=λa_ c_=>match a_ with
 | [.int f_0,.int f_1,.int f_2]=>ayS f_0 f_1 f_2 (λr0=>c_ (vwu r0) [])
 | _=>false
abbrev YE (ayS:HA):Fs:=av akK (af5 ayS)
def ajF:FnSh:=⟨[.int .u64,.agg [.int .u64,.int .i64,.int .i64]],[]⟩
def ae1 (awc:Br):SPT:=λa_ c_=>match a_ with
 | [.int b,.int f_0,.int f_1,.int f_2]=>awc b f_0 f_1 f_2 (λr0=>c_ (vwu r0) [])
 | _=>false
abbrev S_ (awc:Br):Fs:=av ajF (ae1 awc)
def aoz:FnSh:=⟨[.int .u64,.agg [.int .u64,.int .i64,.int .i64]],[]⟩
def al0 (au0:CT):SPT:=λa_ c_=>match a_ with
 | [.int b,.int f_0,.int f_1,.int f_2]=>au0 b f_0 f_1 f_2 (λr0 r1 r2=>c_ (.tup [.bool r0,vwi r1,vwu r2]) [])
 | _=>false
abbrev YL (au0:CT):Fs:=av aoz (al0 au0)
def aoy:FnSh:=⟨[.int .u64,.agg [.int .u64,.int .i64,.int .i64]],[]⟩
def alZ (auZ:CS):SPT:=λa_ c_=>match a_ with
 | [.int b,.int f_0,.int f_1,.int f_2]=>auZ b f_0 f_1 f_2 (λr0=>c_ (vwi r0) [])
 | _=>false
abbrev YK (auZ:CS):Fs:=av aoy (alZ auZ)
def akI:FnSh:=⟨[.fb],[]⟩
def af3 (aBk:P5):SPT:=λa_ c_=>match a_ with
 | [.nat x]=>aBk x (λr0=>c_ (vwi r0) [])
 | _=>false
abbrev TK (aBk:P5):Fs:=av akI (af3 aBk)
def akJ:FnSh:=⟨[.fb,.fb],[]⟩
def af4 (aBl:P6):SPT:=λa_ c_=>match a_ with
 | [.nat a,.nat b]=>aBl a b (λr0=>c_ (.bool r0) [])
 | _=>false
abbrev TL (aBl:P6):Fs:=av akJ (af4 aBl)
def akF:FnSh:=⟨[.int .u64],[]⟩
def af0 (auq:yu):SPT:=λa_ c_=>match a_ with
 | [.int a0]=>auq a0 (λr0=>c_ (.flt r0) [])
 | _=>false
abbrev TH (auq:yu):Fs:=av akF (af0 auq)
def akN:FnSh:=⟨[.fb],[]⟩
def af8 (aBm:P7):SPT:=λa_ c_=>match a_ with
 | [.nat x]=>aBm x (λr0=>c_ (.flt r0) [])
 | _=>false
abbrev TM (aBm:P7):Fs:=av akN (af8 aBm)
def aeT:FnSh:=⟨[.roi .u64],[]⟩
def agA (azm:Ky):SPT:=λa_ c_=>match a_ with
 | [.ints l]=>azm l (λr0=>c_ (.slw 0) [⟨33,1,.flts r0⟩])
 | _=>false
abbrev amf (azm:Ky):Fs:=av aeT (agA azm)
def aq2:FnSh:=⟨[.roi .u64,.int .i64,.int .i64,.roi .u64],[]⟩
def aq7 (SQ4:P9):SPT:=λa_ c_=>match a_ with
 | [.ints x,.int rows,.int cols,.ints p]=>SQ4 x rows cols p (λr2 r3=>c_ (.agg [.slw 0,vwi rows,vwi cols,.slw 1]) [⟨33,1,.flts r2⟩,⟨33,1,.flts r3⟩])
 | _=>false
abbrev FQ4 (SQ4:P9):Fs:=av aq2 (aq7 SQ4)
def akq:FnSh:=⟨[.int .i64],[]⟩
def afN (axD:Hi):SPT:=λa_ c_=>match a_ with
 | [.int n]=>axD n (λr0=>c_ (.bool r0) [])
 | _=>false
abbrev Ym (axD:Hi):Fs:=av akq (afN axD)
def akA:FnSh:=⟨[.flt],[]⟩
def SJ (au9:Eg):SPT:=λa_ c_=>match a_ with
 | [.fl x]=>au9 x (λr0=>c_ (vwi r0) [])
 | _=>false
abbrev TF (au9:Eg):Fs:=av akA (SJ au9)
def aez:FnSh:=⟨[.rof],[]⟩
def agc (as2:rT):SPT:=λa_ c_=>match a_ with
 | [.fls l]=>as2 l (λr0=>c_ (.bool r0) [])
 | _=>false
abbrev PY (as2:rT):Fs:=av aez (agc as2)
def aoj:FnSh:=⟨[.agg [.int .i64,.int .i64,.rof]],[]⟩
def alJ (att:vz):SPT:=λa_ c_=>match a_ with
 | [.int m_0,.int m_1,.fls m_2]=>att m_0 m_1 m_2 (λr0=>c_ (vwi r0) [])
 | _=>false
abbrev M6 (att:vz):Fs:=av aoj (alJ att)
def ajL:FnSh:=⟨[.agg [.int .i64,.int .i64,.rof],.int .i64,.int .i64],[]⟩
def ae7 (as8:wB):SPT:=λa_ c_=>match a_ with
 | [.int m_0,.int m_1,.fls m_2,.int i,.int j]=>as8 m_0 m_1 m_2 i j (λr0=>c_ (.flt r0) [])
 | _=>false
abbrev Kg (as8:wB):Fs:=av ajL (ae7 as8)
def akz:FnSh:=⟨[.flt,.flt],[]⟩
def SG (auc:Ef):SPT:=λa_ c_=>match a_ with
 | [.fl a,.fl b]=>auc a b (λr0=>c_ (.bool r0) [])
 | _=>false
abbrev TE (auc:Ef):Fs:=av akz (SG auc)
def aeJ:FnSh:=⟨[.agg [.int .i64,.int .i64,.rof]],[]⟩
def agq (az6:Nq):SPT:=λa_ c_=>match a_ with
 | [.int m_0,.int m_1,.fls m_2]=>az6 m_0 m_1 m_2 (λr0=>c_ (.bool r0) [])
 | _=>false
abbrev amd (az6:Nq):Fs:=av aeJ (agq az6)
def AU:FnSh:=⟨[.bool,.int .i64],[]⟩
def ue (ar2:aY):SPT:=λa_ c_=>match a_ with
 | [.bool is,.int e]=>ar2 is e (c_ (.tup []) [])
 | _=>false
abbrev dz (ar2:aY):Fs:=av AU (ue ar2)
def akG:FnSh:=⟨[.flt],[]⟩
def af1 (avn:wH):SPT:=λa_ c_=>match a_ with
 | [.fl a0]=>avn a0 (λr0=>c_ (vwu r0) [])
 | _=>false
abbrev TI (avn:wH):Fs:=av akG (af1 avn)
def Mw:FnSh:=⟨[.int .u64],[]⟩
def agn (avp:HG):SPT:=λa_ c_=>match a_ with
 | [.int x]=>avp x (λr0=>c_ (vwi r0) [])
 | _=>false
abbrev agS (avp:HG):Fs:=av Mw (agn avp)
def DO:FnSh:=⟨[.int .u64,.agg [.int .u64,.int .i64,.int .i64]],[]⟩
def Sm (ayi:GV):SPT:=λa_ c_=>match a_ with
 | [.int b,.int f_0,.int f_1,.int f_2]=>ayi b f_0 f_1 f_2 (λr0 r1 r2 r3=>c_ (.tup [.agg [.bool r0,vwu r1,vwi r2],vwi r3]) [])
 | _=>false
abbrev X1 (ayi:GV):Fs:=av DO (Sm ayi)
def akt:FnSh:=⟨[.flt],[]⟩
def afQ (aug:BJ):SPT:=λa_ c_=>match a_ with
 | [.fl x]=>aug x (λr0 r1 r2 r3=>c_ (.tup [.agg [.bool r0,vwu r1,vwi r2],vwi r3]) [])
 | _=>false
abbrev TC (aug:BJ):Fs:=av akt (afQ aug)
def alx:FnSh:=⟨[.slw 0],[some (23,1,.ints .u64)]⟩
def aoM (SQ9:lQ):SPT:=λa_ c_=>match a_ with
 | [.ints b]=>SQ9 b (λr0=>c_ (.sl 0 0 r0) [⟨23,1,.ints .u64 b⟩])
 | _=>false
abbrev FQ9 (SQ9:lQ):Fs:=av alx (aoM SQ9)
def aou:FnSh:=⟨[.int .u64],[]⟩
def alV (asB:rU):SPT:=λa_ c_=>match a_ with
 | [.int n]=>asB n (λr0=>c_ (vwr r0) [])
 | _=>false
abbrev M8 (asB:rU):Fs:=av aou (alV asB)
def aok:FnSh:=⟨[.ptr 0 0,.bool,.roi .u64],[some (204,1,.cells [.bool,.nil])]⟩
def alK (avo:vA):SPT:=λa_ c_=>match a_ with
 | [.bool neg,.ints abs,.bool b]=>avo neg abs b (λr0=>c_ (.ptr 0 0) [⟨204,1,.cells [.bool r0,vwr abs]⟩])
 | _=>false
abbrev PZ (avo:vA):Fs:=av aok (alK avo)
def aos:FnSh:=⟨[.ptr 0 0,.int .u64],[some (204,1,.cells [.bool,.nil])]⟩
def alT (avi:HI):SPT:=λa_ c_=>match a_ with
 | [.int n,.bool b]=>avi n b (λr0 r1=>c_ (.ptr 0 0) [⟨204,1,.cells [.bool r0,vwr r1]⟩])
 | _=>false
abbrev agW (avi:HI):Fs:=av aos (alT avi)
def aol:FnSh:=⟨[.roi .u64],[]⟩
def alM (asJ:mQ):SPT:=λa_ c_=>match a_ with
 | [.ints x]=>asJ x (λr0=>c_ (vwr r0) [])
 | _=>false
abbrev GD (asJ:mQ):Fs:=av aol (alM asJ)
def aoC:FnSh:=⟨[.ptr 0 0,.bool,.roi .u64],[some (204,1,.cells [.bool,.roi .u64])]⟩
def al3 (awt:CU):SPT:=λa_ c_=>match a_ with
 | [.bool neg,.ints abs,.bool b,.ints b_1]=>awt neg abs b b_1 (λr0=>c_ (.ptr 0 0) [⟨204,1,.cells [.bool r0,vwr abs]⟩])
 | _=>false
abbrev YM (awt:CU):Fs:=av aoC (al3 awt)
def aoH:FnSh:=⟨[.ptr 0 0,.ptr 0 0],[some (204,1,.cells [.bool,.roi .u64])]⟩
def al8 (avj:HP):SPT:=λa_ c_=>match a_ with
 | [.bool b,.ints b_1]=>avj b b_1 (λr0 r1=>c_ (.ptr 0 0) [⟨204,1,.cells [.bool r0,vwr r1]⟩])
 | _=>false
abbrev ag5 (avj:HP):Fs:=av aoH (al8 avj)
def ajI:FnSh:=⟨[.ptr 0 0,.int .i64],[some (204,1,.cells [.bool,.nil])]⟩
def ae5 (ax_:GM):SPT:=λa_ c_=>match a_ with
 | [.int n,.bool b]=>ax_ n b (λr0 r1=>c_ (.ptr 0 0) [⟨204,1,.cells [.bool r0,vwr r1]⟩])
 | _=>false
abbrev XS (ax_:GM):Fs:=av ajI (ae5 ax_)
def aj4:FnSh:=⟨[.int .i64],[]⟩
def afq (atQ:wC):SPT:=λa_ c_=>match a_ with
 | [.int n]=>atQ n (λr0 r1=>c_ (.ptr 0 0) [⟨204,1,.cells [.bool r0,vwr r1]⟩])
 | _=>false
abbrev MX (atQ:wC):Fs:=av aj4 (afq atQ)
def VS:FnSh:=⟨[.roi .u64,.int .u64],[]⟩
def SM (ayO:Hw):SPT:=λa_ c_=>match a_ with
 | [.ints x,.int n]=>ayO x n (λr0=>c_ (vwr r0) [])
 | _=>false
abbrev YA (ayO:Hw):Fs:=av VS (SM ayO)
def aoE:FnSh:=⟨[.ptr 0 0,.ptr 1 0,.int .u64],[some (204,1,.cells [.bool,.nil]),some (204,1,.cells [.bool,.roi .u64])]⟩
def al5 (avs:HM):SPT:=λa_ c_=>match a_ with
 | [.int n,.bool b,.bool b_1,.ints b_2]=>avs n b b_1 b_2 (λr0 r1=>c_ (.ptr 0 0) [⟨204,1,.cells [.bool r0,vwr r1]⟩,⟨204,1,.cells [.bool b_1,vwr b_2]⟩])
 | _=>false
abbrev ag2 (avs:HM):Fs:=av aoE (al5 avs)
def aex:FnSh:=⟨[.roi .u64,.roi .u64],[]⟩
def af9 (asq:pF):SPT:=λa_ c_=>match a_ with
 | [.ints x,.ints y]=>asq x y (λr0=>c_ (vwi r0) [])
 | _=>false
abbrev Lu (asq:pF):Fs:=av aex (af9 asq)
def DP:FnSh:=⟨[.int .u64],[]⟩
def So (awo:Bx):SPT:=λa_ c_=>match a_ with
 | [.int x]=>awo x (λr0=>c_ (vwi r0) [])
 | _=>false
abbrev Th (awo:Bx):Fs:=av DP (So awo)
def ajE:FnSh:=⟨[.roi .u64],[]⟩
def ae0 (asU:Bp):SPT:=λa_ c_=>match a_ with
 | [.ints x]=>asU x (λr0=>c_ (vwi r0) [])
 | _=>false
abbrev S0 (asU:Bp):Fs:=av ajE (ae0 asU)
def ajD:FnSh:=⟨[.roi .u64,.int .i64],[]⟩
def aeZ (as6:pO):SPT:=λa_ c_=>match a_ with
 | [.ints x,.int i]=>as6 x i (λr0=>c_ (vwu r0) [])
 | _=>false
abbrev E9 (as6:pO):Fs:=av ajD (aeZ as6)
def akg:FnSh:=⟨[.roi .u64,.int .i64],[]⟩
def afC (asT:BF):SPT:=λa_ c_=>match a_ with
 | [.ints x,.int from_]=>asT x from_ (λr0=>c_ (vwu r0) [])
 | _=>false
abbrev Ts (asT:BF):Fs:=av akg (afC asT)
def VA:FnSh:=⟨[.int .u64,.int .u64],[]⟩
def Se (asV:Bu):SPT:=λa_ c_=>match a_ with
 | [.int x,.int y]=>asV x y (λr0 r1 r2 r3 r4=>c_ (.agg [vwu r0,vwu r1,vwu r2,vwu r3,.bool r4]) [])
 | _=>false
abbrev Tc (asV:Bu):Fs:=av VA (Se asV)
def aow:FnSh:=⟨[.int .u64,.int .u64],[]⟩
def alX (auf:yy):SPT:=λa_ c_=>match a_ with
 | [.int x,.int y]=>auf x y (λr0 r1=>c_ (.tup [vwu r0,vwu r1]) [])
 | _=>false
abbrev P1 (auf:yy):Fs:=av aow (alX auf)
def an9:FnSh:=⟨[.int .u64,.int .u64,.int .u64],[]⟩
def alz (asn:mP):SPT:=λa_ c_=>match a_ with
 | [.int a0,.int a1,.int a2]=>asn a0 a1 a2 (λr0 r1=>c_ (.tup [vwu r0,vwu r1]) [])
 | _=>false
abbrev FX (asn:mP):Fs:=av an9 (alz asn)
def aom:FnSh:=⟨[.int .u64,.int .u64,.int .u64,.int .u64],[]⟩
def alN (asw:pG):SPT:=λa_ c_=>match a_ with
 | [.int a,.int b,.int c,.int d]=>asw a b c d (λr0 r1=>c_ (.tup [vwu r0,vwu r1]) [])
 | _=>false
abbrev JW (asw:pG):Fs:=av aom (alN asw)
def VR:FnSh:=⟨[.roi .u64,.int .u64,.int .u64],[]⟩
def SL (avX:Hs):SPT:=λa_ c_=>match a_ with
 | [.ints x,.int d,.int more]=>avX x d more (λr0=>c_ (vwr r0) [])
 | _=>false
abbrev Yx (avX:Hs):Fs:=av VR (SL avX)
def aog:FnSh:=⟨[.int .u64,.int .u64,.int .u64],[]⟩
def alH (asO:tw):SPT:=λa_ c_=>match a_ with
 | [.int a0,.int a1,.int a2]=>asO a0 a1 a2 (λr0 r1=>c_ (.tup [vwu r0,vwu r1]) [])
 | _=>false
abbrev PW (asO:tw):Fs:=av aog (alH asO)
def VN:FnSh:=⟨[.roi .u64,.roi .u64],[]⟩
def SE (avE:BI):SPT:=λa_ c_=>match a_ with
 | [.ints x,.ints y]=>avE x y (λr0=>c_ (vwr r0) [])
 | _=>false
abbrev TA (avE:BI):Fs:=av VN (SE avE)
def xl:FnSh:=⟨[.agg [.int .u64,.int .u64,.int .u64,.int .u64,.bool],.roi .u64,.roi .u64],[]⟩
def pK (ar4:dx):SPT:=λa_ c_=>match a_ with
 | [.int w_0,.int w_1,.int w_2,.int w_3,.bool w_4,.ints x,.ints y]=>ar4 w_0 w_1 w_2 w_3 w_4 x y (λr0 r1=>c_ (.tup [vwr r0,vwr r1]) [])
 | _=>false
abbrev jc (ar4:dx):Fs:=av xl (pK ar4)
def an8:FnSh:=⟨[.int .u64],[]⟩
def aly (asY:uE):SPT:=λa_ c_=>match a_ with
 | [.int x]=>asY x (λr0=>c_ (vwi r0) [])
 | _=>false
abbrev V_ (asY:uE):Fs:=av an8 (aly asY)
def aeF:FnSh:=⟨[.int .u64,.int .u64,.int .u64],[]⟩
def agj (atD:xy):SPT:=λa_ c_=>match a_ with
 | [.int hi,.int lo,.int y]=>atD hi lo y (λr0 r1=>c_ (.tup [vwu r0,vwu r1]) [])
 | _=>false
abbrev M7 (atD:xy):Fs:=av aeF (agj atD)
def VD:FnSh:=⟨[.roi .u64,.int .u64],[]⟩
def Sn (as1:yq):SPT:=λa_ c_=>match a_ with
 | [.ints x,.int d]=>as1 x d (λr0 r1=>c_ (.tup [vwr r0,vwu r1]) [])
 | _=>false
abbrev Tg (as1:yq):Fs:=av VD (Sn as1)
def aeK:FnSh:=⟨[.roi .u64,.int .u64],[]⟩
def agr (atG:Fa):SPT:=λa_ c_=>match a_ with
 | [.ints x,.int n]=>atG x n (c_ (.nil) []) (λr0 r1=>c_ (.sl 0 0 r0) [⟨23,1,.ints .u64 r1⟩])
 | _=>false
abbrev agX (atG:Fa):Fs:=av aeK (agr atG)
def Vy:FnSh:=⟨[.sl 0,.roi .u64],[some (23,1,.ints .u64)]⟩
def R_ (atw:Bo):SPT:=λa_ c_=>match a_ with
 | [.nat u_0,.nat u_1,.ints v,.ints b]=>atw u_0 u_1 v b (λr0=>c_ (vwu r0) [⟨23,1,.ints .u64 b⟩])
 | _=>false
abbrev SZ (atw:Bo):Fs:=av Vy (R_ atw)
def Mr:FnSh:=⟨[.sl 0,.roi .u64],[some (23,1,.ints .u64)]⟩
def Sa (as3:yn):SPT:=λa_ c_=>match a_ with
 | [.nat u_0,.nat u_1,.ints v,.ints b]=>as3 u_0 u_1 v b (λr0 r1=>c_ (vwu r0) [⟨23,1,.ints .u64 r1⟩])
 | _=>false
abbrev Ta (as3:yn):Fs:=av Mr (Sa as3)
def aeM:FnSh:=⟨[.sl 0,.sl 1],[some (23,1,.ints .u64),some (23,1,.ints .u64)]⟩
def ags (aur:Fb):SPT:=λa_ c_=>match a_ with
 | [.nat u_0,.nat u_1,.nat v_0,.nat v_1,.ints b,.ints b_1]=>aur u_0 u_1 v_0 v_1 b b_1 (λr0=>c_ (vwu r0) [⟨23,1,.ints .u64 b⟩,⟨23,1,.ints .u64 b_1⟩])
 | _=>false
abbrev agZ (aur:Fb):Fs:=av aeM (ags aur)
def aeO:FnSh:=⟨[.sl 0,.sl 1],[some (23,1,.ints .u64),some (23,1,.ints .u64)]⟩
def agv (atO:Fc):SPT:=λa_ c_=>match a_ with
 | [.nat u_0,.nat u_1,.nat v_0,.nat v_1,.ints b,.ints b_1]=>atO u_0 u_1 v_0 v_1 b b_1 (λr0 r1=>c_ (vwu r0) [⟨23,1,.ints .u64 r1⟩,⟨23,1,.ints .u64 b_1⟩])
 | _=>false
abbrev ag1 (atO:Fc):Fs:=av aeO (agv atO)
def Mt:FnSh:=⟨[.sl 0],[some (23,1,.ints .u64)]⟩
def Sb (as4:yo):SPT:=λa_ c_=>match a_ with
 | [.nat x_0,.nat x_1,.ints b]=>as4 x_0 x_1 b (λr1=>c_ (.sl 0 x_0 r1) [⟨23,1,.ints .u64 b⟩])
 | _=>false
abbrev Tb (as4:yo):Fs:=av Mt (Sb as4)
def ajP:FnSh:=⟨[.sl 0,.int .i64],[some (23,1,.ints .u64)]⟩
def afc (at2:Bw):SPT:=λa_ c_=>match a_ with
 | [.nat x_0,.nat x_1,.int i,.ints b]=>at2 x_0 x_1 i b (λr0=>c_ (vwu r0) [⟨23,1,.ints .u64 b⟩])
 | _=>false
abbrev Te (at2:Bw):Fs:=av ajP (afc at2)
def aeS:FnSh:=⟨[.sl 0,.int .u64],[some (23,1,.ints .u64)]⟩
def agz (atP:Fd):SPT:=λa_ c_=>match a_ with
 | [.nat x_0,.nat x_1,.int n,.ints b]=>atP x_0 x_1 n b (λr0 r1=>c_ (.tup [vwr r0,.bool r1]) [⟨23,1,.ints .u64 b⟩])
 | _=>false
abbrev ag8 (atP:Fd):Fs:=av aeS (agz atP)
def Jr:FnSh:=⟨[.roi .u64,.roi .u64],[]⟩
def af_ (asG:tv):SPT:=λa_ c_=>match a_ with
 | [.ints x,.ints y]=>asG x y (λr0 r1=>c_ (.tup [vwr r0,vwr r1]) [])
 | _=>false
abbrev M5 (asG:tv):Fs:=av Jr (af_ asG)
def akf:FnSh:=⟨[.roi .u64],[]⟩
def afB (asS:BE):SPT:=λa_ c_=>match a_ with
 | [.ints x]=>asS x (λr0=>c_ (vwu r0) [])
 | _=>false
abbrev Tq (asS:BE):Fs:=av akf (afB asS)
def Ju:FnSh:=⟨[.roi .u64,.roi .u64],[]⟩
def agt (at8:vC):SPT:=λa_ c_=>match a_ with
 | [.ints x,.ints y]=>at8 x y (λr0=>c_ (vwr r0) [])
 | _=>false
abbrev P2 (at8:vC):Fs:=av Ju (agt at8)
def Mu:FnSh:=⟨[.ptr 0 0,.bool,.roi .u64],[some (210,1,.cells [.bool,.nil,.bool,.nil])]⟩
def alL (auF:yv):SPT:=λa_ c_=>match a_ with
 | [.bool neg,.ints abs,.bool b,.bool b_1]=>auF neg abs b b_1 (λr0 r3=>c_ (.ptr 0 0) [⟨210,1,.cells [.bool r0,vwr abs,.bool b_1,vwr r3]⟩])
 | _=>false
abbrev Wd (auF:yv):Fs:=av Mu (alL auF)
def aov:FnSh:=⟨[.ptr 0 2,.bool,.roi .u64],[some (210,1,.cells [.bool,.roi .u64,.bool,.roi .u64])]⟩
def alW (au5:CR):SPT:=λa_ c_=>match a_ with
 | [.bool neg,.ints abs,.bool b,.ints b_1,.bool b_2,.ints b_3]=>au5 neg abs b b_1 b_2 b_3 (λr2=>c_ (.ptr 0 2) [⟨210,1,.cells [.bool b,vwr b_1,.bool r2,vwr abs]⟩])
 | _=>false
abbrev YJ (au5:CR):Fs:=av aov (alW au5)
def DN:FnSh:=⟨[.ptr 0 0,.bool,.roi .u64,.roi .u64],[some (210,1,.cells [.bool,.nil,.bool,.nil])]⟩
def Sj (ayd:GQ):SPT:=λa_ c_=>match a_ with
 | [.bool neg,.ints a,.ints b,.bool b_1,.bool b_2]=>ayd neg a b b_1 b_2 (λr0 r1 r2 r3=>c_ (.ptr 0 0) [⟨210,1,.cells [.bool r0,vwr r1,.bool r2,vwr r3]⟩])
 | _=>false
abbrev XW (ayd:GQ):Fs:=av DN (Sj ayd)
def aof:FnSh:=⟨[.ptr 0 0,.ptr 1 0,.ptr 2 0],[some (210,1,.cells [.bool,.nil,.bool,.nil]),some (204,1,.cells [.bool,.roi .u64]),some (204,1,.cells [.bool,.roi .u64])]⟩
def alG (au3:CK):SPT:=λa_ c_=>match a_ with
 | [.bool b,.bool b_1,.bool b_2,.ints b_3,.bool b_4,.ints b_5]=>au3 b b_1 b_2 b_3 b_4 b_5 (λr0 r1 r2 r3=>c_ (.ptr 0 0) [⟨210,1,.cells [.bool r0,vwr r1,.bool r2,vwr r3]⟩,⟨204,1,.cells [.bool b_2,vwr b_3]⟩,⟨204,1,.cells [.bool b_4,vwr b_5]⟩])
 | _=>false
abbrev YH (au3:CK):Fs:=av aof (alG au3)
def VC:FnSh:=⟨[.roi .u64,.roi .u64],[]⟩
def Sl (aun:ti):SPT:=λa_ c_=>match a_ with
 | [.ints x,.ints y]=>aun x y (λr0=>c_ (vwr r0) [])
 | _=>false
abbrev Kh (aun:ti):Fs:=av VC (Sl aun)
def aox:FnSh:=⟨[.ptr 0 0,.ptr 0 0,.ptr 1 0],[some (204,1,.cells [.bool,.roi .u64]),some (204,1,.cells [.bool,.roi .u64])]⟩
def alY (avr:HJ):SPT:=λa_ c_=>match a_ with
 | [.bool b,.ints b_1,.bool b_2,.ints b_3]=>avr b b_1 b_2 b_3 (λr0 r1=>c_ (.ptr 0 0) [⟨204,1,.cells [.bool r0,vwr r1]⟩,⟨204,1,.cells [.bool b_2,vwr b_3]⟩])
 | _=>false
abbrev agY (avr:HJ):Fs:=av aox (alY avr)
def ajN:FnSh:=⟨[.ptr 0 2,.bool,.slw 1],[some (210,1,.cells [.bool,.roi .u64,.bool,.roi .u64]),some (23,1,.ints .u64)]⟩
def ae_ (ayc:GP):SPT:=λa_ c_=>match a_ with
 | [.bool neg,.bool b,.ints b_1,.bool b_2,.ints b_3,.ints b_4]=>ayc neg b b_1 b_2 b_3 b_4 (λr2=>c_ (.ptr 0 2) [⟨210,1,.cells [.bool b,vwr b_1,.bool r2,.slw 1]⟩,⟨23,1,.ints .u64 b_4⟩])
 | _=>false
abbrev XV (ayc:GP):Fs:=av ajN (ae_ ayc)
def ajQ:FnSh:=⟨[.ptr 0 0,.bool,.roi .u64,.slw 1],[some (210,1,.cells [.bool,.nil,.bool,.nil]),some (23,1,.ints .u64)]⟩
def afd (ayf:GS):SPT:=λa_ c_=>match a_ with
 | [.bool neg,.ints a,.bool b,.bool b_1,.ints b_2]=>ayf neg a b b_1 b_2 (λr0 r2=>c_ (.ptr 0 0) [⟨210,1,.cells [.bool r0,vwr a,.bool r2,.slw 1]⟩,⟨23,1,.ints .u64 b_2⟩])
 | _=>false
abbrev XY (ayf:GS):Fs:=av ajQ (afd ayf)
def aoq:FnSh:=⟨[.ptr 0 0,.ptr 1 0],[some (210,1,.cells [.bool,.nil,.bool,.nil]),some (204,1,.cells [.bool,.roi .u64])]⟩
def alQ (avq:HH):SPT:=λa_ c_=>match a_ with
 | [.bool b,.bool b_1,.bool b_2,.ints b_3]=>avq b b_1 b_2 b_3 (λr0 r1 r2 r3=>c_ (.ptr 0 0) [⟨210,1,.cells [.bool r0,vwr r1,.bool r2,vwr r3]⟩,⟨204,1,.cells [.bool b_2,vwr b_3]⟩])
 | _=>false
abbrev agT (avq:HH):Fs:=av aoq (alQ avq)
def gS:FnSh:=⟨[.flt],[]⟩
def na (asg:f_):SPT:=λa_ c_=>match a_ with
 | [.fl x]=>asg x (λr0 r1 r2 r3=>c_ (.agg [.rp [.bool r0,vwr r1,.bool r2,vwr r3] 0]) [])
 | _=>false
abbrev kx (asg:f_):Fs:=av gS (na asg)
def pJ:FnSh:=⟨[.agg [.int .i64,.int .i64,.rof]],[]⟩
def mj (asI:eZ):SPT:=λa_ c_=>match a_ with
 | [.int m_0,.int m_1,.fls m_2]=>asI m_0 m_1 m_2 (λr2=>c_ (.agg [vwi m_0,vwi m_1,.slw 0]) [⟨179,1,.recs RT1 r2⟩])
 | _=>false
abbrev jP (asI:eZ):Fs:=av pJ (mj asI)
def ux:FnSh:=⟨[.agg [.int .i64,.int .i64,.slw 0],.int .i64,.int .i64],[some (179,1,.recs RT1)]⟩
def nC (arW:aO):SPT:=λa_ c_=>match a_ with
 | [.int g_0,.int g_1,.int i,.int j,.recs t4_ b]=>RT.cast RT1 t4_ b (λb=>arW g_0 g_1 i j b (λr0 r1 r2 r3=>c_ (.agg [.rp [.bool r0,vwr r1,.bool r2,vwr r3] 0]) [⟨179,1,.recs RT1 b⟩])) false
 | _=>false
abbrev bR (arW:aO):Fs:=av ux (nC arW)
def aeI:FnSh:=⟨[.rp [.bool,.roi .u64,.bool,.roi .u64] 0],[]⟩
def alS (avd:vB):SPT:=λa_ c_=>match a_ with
 | [.bool x_0,.ints x_1,.bool x_2,.ints x_3]=>avd x_0 x_1 x_2 x_3 (λr0=>c_ (vwr r0) [])
 | _=>false
abbrev P0 (avd:vB):Fs:=av aeI (alS avd)
def aoo:FnSh:=⟨[.ptr 0 0,.bool,.roi .u64,.roi .u64],[some (210,1,.cells [.bool,.nil,.bool,.nil])]⟩
def alP (avZ:yx):SPT:=λa_ c_=>match a_ with
 | [.bool neg,.ints a,.ints b,.bool b_1,.bool b_2]=>avZ neg a b b_1 b_2 (λr0 r2=>c_ (.ptr 0 0) [⟨210,1,.cells [.bool r0,vwr a,.bool r2,vwr b]⟩])
 | _=>false
abbrev Wf (avZ:yx):Fs:=av aoo (alP avZ)
def aj1:FnSh:=⟨[.ptr 0 0,.rp [.bool,.roi .u64,.bool,.roi .u64] 0],[some (210,1,.cells [.bool,.nil,.bool,.nil])]⟩
def afn (ayl:GY):SPT:=λa_ c_=>match a_ with
 | [.bool x_0,.ints x_1,.bool x_2,.ints x_3,.bool b,.bool b_1]=>ayl x_0 x_1 x_2 x_3 b b_1 (λr0 r1 r2 r3=>c_ (.ptr 0 0) [⟨210,1,.cells [.bool r0,vwr r1,.bool r2,vwr r3]⟩])
 | _=>false
abbrev X4 (ayl:GY):Fs:=av aj1 (afn ayl)
def ajO:FnSh:=⟨[.ptr 0 0],[some (210,1,.cells [.bool,.roi .u64,.bool,.roi .u64])]⟩
def afb (aye:GR):SPT:=λa_ c_=>match a_ with
 | [.bool b,.ints b_1,.bool b_2,.ints b_3]=>aye b b_1 b_2 b_3 (λr0=>c_ (vwr r0) [⟨210,1,.cells [.bool b,vwr b_1,.bool b_2,vwr b_3]⟩])
 | _=>false
abbrev XX (aye:GR):Fs:=av ajO (afb aye)
def DR:FnSh:=⟨[.roi .u64,.roi .u64],[]⟩
def Sy (aup:wE):SPT:=λa_ c_=>match a_ with
 | [.ints x,.ints y]=>aup x y (λr0=>c_ (vwr r0) [])
 | _=>false
abbrev M0 (aup:wE):Fs:=av DR (Sy aup)
def VV:FnSh:=⟨[.roi .u64,.roi .u64],[]⟩
def SP (ayR:Hz):SPT:=λa_ c_=>match a_ with
 | [.ints x,.ints y]=>ayR x y (λr0=>c_ (vwr r0) [])
 | _=>false
abbrev YD (ayR:Hz):Fs:=av VV (SP ayR)
def aoG:FnSh:=⟨[.ptr 0 0,.ptr 0 0,.bool,.roi .u64],[some (204,1,.cells [.bool,.roi .u64])]⟩
def al7 (axW:HO):SPT:=λa_ c_=>match a_ with
 | [.bool neg,.ints y,.bool b,.ints b_1]=>axW neg y b b_1 (λr0 r1=>c_ (.ptr 0 0) [⟨204,1,.cells [.bool r0,vwr r1]⟩])
 | _=>false
abbrev ag4 (axW:HO):Fs:=av aoG (al7 axW)
def ajH:FnSh:=⟨[.ptr 0 0,.rp [.bool,.roi .u64,.bool,.roi .u64] 0,.ptr 1 0],[some (210,1,.cells [.bool,.nil,.bool,.nil]),some (210,1,.cells [.bool,.roi .u64,.bool,.roi .u64])]⟩
def ae4 (ax9:GL):SPT:=λa_ c_=>match a_ with
 | [.bool x_0,.ints x_1,.bool x_2,.ints x_3,.bool b,.bool b_1,.bool b_2,.ints b_3,.bool b_4,.ints b_5]=>ax9 x_0 x_1 x_2 x_3 b b_1 b_2 b_3 b_4 b_5 (λr0 r1 r2 r3=>c_ (.ptr 0 0) [⟨210,1,.cells [.bool r0,vwr r1,.bool r2,vwr r3]⟩,⟨210,1,.cells [.bool b_2,vwr b_3,.bool b_4,vwr b_5]⟩])
 | _=>false
abbrev XR (ax9:GL):Fs:=av ajH (ae4 ax9)
def aj7:FnSh:=⟨[.ptr 0 0,.rp [.bool,.roi .u64,.bool,.roi .u64] 0,.rp [.bool,.roi .u64,.bool,.roi .u64] 0],[some (210,1,.cells [.bool,.nil,.bool,.nil])]⟩
def aft (ays:G6):SPT:=λa_ c_=>match a_ with
 | [.bool x_0,.ints x_1,.bool x_2,.ints x_3,.bool y_0,.ints y_1,.bool y_2,.ints y_3,.bool b,.bool b_1]=>ays x_0 x_1 x_2 x_3 y_0 y_1 y_2 y_3 b b_1 (λr0 r1 r2 r3=>c_ (.ptr 0 0) [⟨210,1,.cells [.bool r0,vwr r1,.bool r2,vwr r3]⟩])
 | _=>false
abbrev Ya (ays:G6):Fs:=av aj7 (aft ays)
def tZ:FnSh:=⟨[.agg [.rp [.bool,.roi .u64,.bool,.roi .u64] 0],.agg [.rp [.bool,.roi .u64,.bool,.roi .u64] 0]],[]⟩
def mT (ar0:bf):SPT:=λa_ c_=>match a_ with
 | [.bool x_0,.ints x_1,.bool x_2,.ints x_3,.bool y_0,.ints y_1,.bool y_2,.ints y_3]=>ar0 x_0 x_1 x_2 x_3 y_0 y_1 y_2 y_3 (λr0 r1 r2 r3=>c_ (.agg [.rp [.bool r0,vwr r1,.bool r2,vwr r3] 0]) [])
 | _=>false
abbrev dp (ar0:bf):Fs:=av tZ (mT ar0)
def akl:FnSh:=⟨[.rp [.bool,.roi .u64,.bool,.roi .u64] 0],[]⟩
def afI (ayA:He):SPT:=λa_ c_=>match a_ with
 | [.bool x_0,.ints x_1,.bool x_2,.ints x_3]=>ayA x_0 x_1 x_2 x_3 (λr0=>c_ (vwi r0) [])
 | _=>false
abbrev Yi (ayA:He):Fs:=av akl (afI ayA)
def akm:FnSh:=⟨[.rp [.bool,.roi .u64,.bool,.roi .u64] 0],[]⟩
def afJ (ayB:Hf):SPT:=λa_ c_=>match a_ with
 | [.bool x_0,.ints x_1,.bool x_2,.ints x_3]=>ayB x_0 x_1 x_2 x_3 (λr0=>c_ (vwi r0) [])
 | _=>false
abbrev Yj (ayB:Hf):Fs:=av akm (afJ ayB)
def ub:FnSh:=⟨[.agg [.rp [.bool,.roi .u64,.bool,.roi .u64] 0]],[]⟩
def mW (arY:bg):SPT:=λa_ c_=>match a_ with
 | [.bool x_0,.ints x_1,.bool x_2,.ints x_3]=>arY x_0 x_1 x_2 x_3 (λr0=>c_ (vwi r0) [])
 | _=>false
abbrev dr (arY:bg):Fs:=av ub (mW arY)
def jK:FnSh:=⟨[.agg [.int .i64,.int .i64,.slw 0]],[some (179,1,.recs RT1)]⟩
def gy (asA:cI):SPT:=λa_ c_=>match a_ with
 | [.int g_0,.int g_1,.recs t2_ b]=>RT.cast RT1 t2_ b (λb=>asA g_0 g_1 b (c_ (.tup []) [⟨179,1,.recs RT1 b⟩])) false
 | _=>false
abbrev gN (asA:cI):Fs:=av jK (gy asA)
def akx:FnSh:=⟨[.int .i64,.int .i64],[]⟩
def afU (ayG:Hm):SPT:=λa_ c_=>match a_ with
 | [.int a,.int b]=>ayG a b (λr0 r1 r2 r3=>c_ (.ptr 0 0) [⟨210,1,.cells [.bool r0,vwr r1,.bool r2,vwr r3]⟩])
 | _=>false
abbrev Yr (ayG:Hm):Fs:=av akx (afU ayG)
def Cn:FnSh:=⟨[.int .i64],[]⟩
def uU (asc:gZ):SPT:=λa_ c_=>match a_ with
 | [.int n]=>asc n (λr0 r1 r2 r3=>c_ (.agg [.rp [.bool r0,vwr r1,.bool r2,vwr r3] 0]) [])
 | _=>false
abbrev ms (asc:gZ):Fs:=av Cn (uU asc)
def aoA:FnSh:=⟨[.ptr 0 0,.bool,.roi .u64,.roi .u64,.roi .u64,.roi .u64],[some (210,1,.cells [.bool,.nil,.bool,.nil])]⟩
def al1 (axV:HK):SPT:=λa_ c_=>match a_ with
 | [.bool neg,.ints a,.ints b,.ints c,.ints d,.bool b_1,.bool b_2]=>axV neg a b c d b_1 b_2 (λr0 r1 r2 r3=>c_ (.ptr 0 0) [⟨210,1,.cells [.bool r0,vwr r1,.bool r2,vwr r3]⟩])
 | _=>false
abbrev ag0 (axV:HK):Fs:=av aoA (al1 axV)
def aj6:FnSh:=⟨[.ptr 0 0,.rp [.bool,.roi .u64,.bool,.roi .u64] 0,.rp [.bool,.roi .u64,.bool,.roi .u64] 0],[some (210,1,.cells [.bool,.nil,.bool,.nil])]⟩
def afs (ayr:G5):SPT:=λa_ c_=>match a_ with
 | [.bool x_0,.ints x_1,.bool x_2,.ints x_3,.bool y_0,.ints y_1,.bool y_2,.ints y_3,.bool b,.bool b_1]=>ayr x_0 x_1 x_2 x_3 y_0 y_1 y_2 y_3 b b_1 (λr0 r1 r2 r3=>c_ (.ptr 0 0) [⟨210,1,.cells [.bool r0,vwr r1,.bool r2,vwr r3]⟩])
 | _=>false
abbrev X_ (ayr:G5):Fs:=av aj6 (afs ayr)
def t_:FnSh:=⟨[.agg [.rp [.bool,.roi .u64,.bool,.roi .u64] 0],.agg [.rp [.bool,.roi .u64,.bool,.roi .u64] 0]],[]⟩
def mU (ar7:cW):SPT:=λa_ c_=>match a_ with
 | [.bool x_0,.ints x_1,.bool x_2,.ints x_3,.bool y_0,.ints y_1,.bool y_2,.ints y_3]=>ar7 x_0 x_1 x_2 x_3 y_0 y_1 y_2 y_3 (λr0 r1 r2 r3=>c_ (.agg [.rp [.bool r0,vwr r1,.bool r2,vwr r3] 0]) [])
 | _=>false
abbrev gD (ar7:cW):Fs:=av t_ (mU ar7)
def aj5:FnSh:=⟨[.ptr 0 0,.rp [.bool,.roi .u64,.bool,.roi .u64] 0,.rp [.bool,.roi .u64,.bool,.roi .u64] 0],[some (210,1,.cells [.bool,.nil,.bool,.nil])]⟩
def afr (ayq:G4):SPT:=λa_ c_=>match a_ with
 | [.bool x_0,.ints x_1,.bool x_2,.ints x_3,.bool y_0,.ints y_1,.bool y_2,.ints y_3,.bool b,.bool b_1]=>ayq x_0 x_1 x_2 x_3 y_0 y_1 y_2 y_3 b b_1 (λr0 r1 r2 r3=>c_ (.ptr 0 0) [⟨210,1,.cells [.bool r0,vwr r1,.bool r2,vwr r3]⟩])
 | _=>false
abbrev X9 (ayq:G4):Fs:=av aj5 (afr ayq)
def sL:FnSh:=⟨[.agg [.rp [.bool,.roi .u64,.bool,.roi .u64] 0],.agg [.rp [.bool,.roi .u64,.bool,.roi .u64] 0]],[]⟩
def ml (ar_:cJ):SPT:=λa_ c_=>match a_ with
 | [.bool x_0,.ints x_1,.bool x_2,.ints x_3,.bool y_0,.ints y_1,.bool y_2,.ints y_3]=>ar_ x_0 x_1 x_2 x_3 y_0 y_1 y_2 y_3 (λr0 r1 r2 r3=>c_ (.agg [.rp [.bool r0,vwr r1,.bool r2,vwr r3] 0]) [])
 | _=>false
abbrev gf (ar_:cJ):Fs:=av sL (ml ar_)
def ajX:FnSh:=⟨[.ptr 0 0,.rp [.bool,.roi .u64,.bool,.roi .u64] 0,.rp [.bool,.roi .u64,.bool,.roi .u64] 0],[some (210,1,.cells [.bool,.nil,.bool,.nil])]⟩
def afj (ayj:GW):SPT:=λa_ c_=>match a_ with
 | [.bool x_0,.ints x_1,.bool x_2,.ints x_3,.bool y_0,.ints y_1,.bool y_2,.ints y_3,.bool b,.bool b_1]=>ayj x_0 x_1 x_2 x_3 y_0 y_1 y_2 y_3 b b_1 (λr0 r1 r2 r3=>c_ (.ptr 0 0) [⟨210,1,.cells [.bool r0,vwr r1,.bool r2,vwr r3]⟩])
 | _=>false
abbrev X2 (ayj:GW):Fs:=av ajX (afj ayj)
def ua:FnSh:=⟨[.agg [.rp [.bool,.roi .u64,.bool,.roi .u64] 0],.agg [.rp [.bool,.roi .u64,.bool,.roi .u64] 0]],[]⟩
def mV (asa:cX):SPT:=λa_ c_=>match a_ with
 | [.bool x_0,.ints x_1,.bool x_2,.ints x_3,.bool y_0,.ints y_1,.bool y_2,.ints y_3]=>asa x_0 x_1 x_2 x_3 y_0 y_1 y_2 y_3 (λr0 r1 r2 r3=>c_ (.agg [.rp [.bool r0,vwr r1,.bool r2,vwr r3] 0]) [])
 | _=>false
abbrev gE (asa:cX):Fs:=av ua (mV asa)
def uy:FnSh:=⟨[.agg [.int .i64,.int .i64,.slw 0],.int .i64,.int .i64,.agg [.rp [.bool,.roi .u64,.bool,.roi .u64] 0]],[some (179,1,.recs RT1)]⟩
def nD (asb:dw):SPT:=λa_ c_=>match a_ with
 | [.int g_0,.int g_1,.int i,.int j,.bool x_0,.ints x_1,.bool x_2,.ints x_3,.recs t8_ b]=>RT.cast RT1 t8_ b (λb=>asb g_0 g_1 i j x_0 x_1 x_2 x_3 b (λr0=>c_ (.tup []) [⟨179,1,.recs RT1 r0⟩])) false
 | _=>false
abbrev gX (asb:dw):Fs:=av uy (nD asb)
def mR:FnSh:=⟨[.agg [.int .i64,.int .i64,.slw 0],.int .i64,.int .i64,.agg [.rp [.bool,.roi .u64,.bool,.roi .u64] 0]],[some (179,1,.recs RT1)]⟩
def jJ (ar8:du):SPT:=λa_ c_=>match a_ with
 | [.int g_0,.int g_1,.int i,.int k_,.bool x_0,.ints x_1,.bool x_2,.ints x_3,.recs t8_ b]=>RT.cast RT1 t8_ b (λb=>ar8 g_0 g_1 i k_ x_0 x_1 x_2 x_3 b (λr0=>c_ (.tup []) [⟨179,1,.recs RT1 r0⟩])) false
 | _=>false
abbrev gW (ar8:du):Fs:=av mR (jJ ar8)
def kj:FnSh:=⟨[.agg [.int .i64,.int .i64,.slw 0]],[some (179,1,.recs RT1)]⟩
def gU (asE:cR):SPT:=λa_ c_=>match a_ with
 | [.int g_0,.int g_1,.recs t2_ b]=>RT.cast RT1 t2_ b (λb=>asE g_0 g_1 b (λr0 r1=>c_ (vwi r0) [⟨179,1,.recs RT1 r1⟩])) false
 | _=>false
abbrev ie (asE:cR):Fs:=av kj (gU asE)
def tY:FnSh:=⟨[.agg [.int .i64,.int .i64,.slw 0]],[some (179,1,.recs RT1)]⟩
def mS (asr:cV):SPT:=λa_ c_=>match a_ with
 | [.int g_0,.int g_1,.recs t2_ b]=>RT.cast RT1 t2_ b (λb=>asr g_0 g_1 b (λr0 r1=>c_ (vwi r0) [⟨179,1,.recs RT1 r1⟩])) false
 | _=>false
abbrev gC (asr:cV):Fs:=av tY (mS asr)
def qZ:FnSh:=⟨[.agg [.int .i64,.int .i64,.rof]],[]⟩
def m_ (atp:im):SPT:=λa_ c_=>match a_ with
 | [.int m_0,.int m_1,.fls m_2]=>atp m_0 m_1 m_2 (λr0 r1=>c_ (.tup [vwi r0,vwi r1]) [])
 | _=>false
abbrev nM (atp:im):Fs:=av qZ (m_ atp)
def AR:FnSh:=⟨[.agg [.int .i64,.int .i64,.rof]],[]⟩
def uc (asM:eX):SPT:=λa_ c_=>match a_ with
 | [.int p_0,.int p_1,.fls p_2]=>asM p_0 p_1 p_2 (λr0=>c_ (.bool r0) [])
 | _=>false
abbrev lz (asM:eX):Fs:=av AR (uc asM)
def EU:FnSh:=⟨[.agg [.rof,.int .i64,.int .i64,.rof]],[]⟩
def xJ (asd:bX):SPT:=λa_ c_=>match a_ with
 | [.fls s_0,.int s_1,.int s_2,.fls s_3]=>asd s_0 s_1 s_2 s_3 (λr0=>c_ (vwi r0) [])
 | _=>false
abbrev gM (asd:bX):Fs:=av EU (xJ asd)
def akr:FnSh:=⟨[.bool,.int .i64],[]⟩
def afO (ayE:Hj):SPT:=λa_ c_=>match a_ with
 | [.bool is,.int e]=>ayE is e (λr0=>c_ (vwi r0) [])
 | _=>false
abbrev Yn (ayE:Hj):Fs:=av akr (afO ayE)
def VK:FnSh:=⟨[.roi .i64],[]⟩
def SB (ayy:Hb):SPT:=λa_ c_=>match a_ with
 | [.ints l]=>ayy l (λr0=>c_ (vwi r0) [])
 | _=>false
abbrev Yg (ayy:Hb):Fs:=av VK (SB ayy)
def ajV:FnSh:=⟨[.agg [.int .i64,.int .i64,.rof]],[]⟩
def afh (au8:D_):SPT:=λa_ c_=>match a_ with
 | [.int m_0,.int m_1,.fls m_2]=>au8 m_0 m_1 m_2 (λr0=>c_ (vwi r0) [])
 | _=>false
abbrev Tj (au8:D_):Fs:=av ajV (afh au8)
def ajU:FnSh:=⟨[.flt],[]⟩
def afg (au7:D9):SPT:=λa_ c_=>match a_ with
 | [.fl x]=>au7 x (λr0 r1=>c_ (.tup [.flt r0,vwi r1]) [])
 | _=>false
abbrev Ti (au7:D9):Fs:=av ajU (afg au7)
def VJ:FnSh:=⟨[.agg [.int .i64,.int .i64,.rof]],[]⟩
def SA (ayx:Ha):SPT:=λa_ c_=>match a_ with
 | [.int m_0,.int m_1,.fls m_2]=>ayx m_0 m_1 m_2 (λr0 r1=>c_ (.tup [.flt r0,vwi r1]) [])
 | _=>false
abbrev Yf (ayx:Ha):Fs:=av VJ (SA ayx)
def EW:FnSh:=⟨[.agg [.rof,.int .i64,.int .i64,.rof]],[]⟩
def xK (asN:jb):SPT:=λa_ c_=>match a_ with
 | [.fls s_0,.int s_1,.int s_2,.fls s_3]=>asN s_0 s_1 s_2 s_3 (λr0 r1=>c_ (.tup [.flt r0,vwi r1]) [])
 | _=>false
abbrev oq (asN:jb):Fs:=av EW (xK asN)
def akC:FnSh:=⟨[.int .i64,.int .i64,.int .i64],[]⟩
def afX (ayL:Hr):SPT:=λa_ c_=>match a_ with
 | [.int rows,.int cols,.int n]=>ayL rows cols n (λr0=>c_ (vwi r0) [])
 | _=>false
abbrev Yw (ayL:Hr):Fs:=av akC (afX ayL)
def akw:FnSh:=⟨[.flt],[]⟩
def afT (awe:BK):SPT:=λa_ c_=>match a_ with
 | [.fl x]=>awe x (λr0=>c_ (vwu r0) [])
 | _=>false
abbrev TD (awe:BK):Fs:=av akw (afT awe)
def akd:FnSh:=⟨[.flt],[]⟩
def afz (atR:wD):SPT:=λa_ c_=>match a_ with
 | [.fl x]=>atR x (λr0 r1 r2=>c_ (.tup [.bool r0,vwi r1,vwu r2]) [])
 | _=>false
abbrev MZ (atR:wD):Fs:=av akd (afz atR)
def akn:FnSh:=⟨[.int .i64,.int .u64,.int .i64],[]⟩
def afK (ayC:Hg):SPT:=λa_ c_=>match a_ with
 | [.int exp,.int frac,.int most]=>ayC exp frac most (λr0=>c_ (vwi r0) [])
 | _=>false
abbrev Yk (ayC:Hg):Fs:=av akn (afK ayC)
def akB:FnSh:=⟨[.flt],[]⟩
def afW (ayK:Hq):SPT:=λa_ c_=>match a_ with
 | [.fl x]=>ayK x (λr0=>c_ (vwi r0) [])
 | _=>false
abbrev Yv (ayK:Hq):Fs:=av akB (afW ayK)
def aob:FnSh:=⟨[.flt],[]⟩
def alC (avA:E_):SPT:=λa_ c_=>match a_ with
 | [.fl x]=>avA x (λr0=>c_ (.bool r0) [])
 | _=>false
abbrev Yo (avA:E_):Fs:=av aob (alC avA)
def Vx:FnSh:=⟨[.rof],[]⟩
def R9 (awn:Bn):SPT:=λa_ c_=>match a_ with
 | [.fls l]=>awn l (λr0=>c_ (.bool r0) [])
 | _=>false
abbrev SY (awn:Bn):Fs:=av Vx (R9 awn)
def aka:FnSh:=⟨[.agg [.int .i64,.int .i64,.rof]],[]⟩
def afw (atN:yr):SPT:=λa_ c_=>match a_ with
 | [.int m_0,.int m_1,.fls m_2]=>atN m_0 m_1 m_2 (λr0=>c_ (vwi r0) [])
 | _=>false
abbrev MY (atN:yr):Fs:=av aka (afw atN)
def aky:FnSh:=⟨[.agg [.int .i64,.int .i64,.rof]],[]⟩
def afV (ayH:Hn):SPT:=λa_ c_=>match a_ with
 | [.int m_0,.int m_1,.fls m_2]=>ayH m_0 m_1 m_2 (λr0=>c_ (vwi r0) [])
 | _=>false
abbrev Ys (ayH:Hn):Fs:=av aky (afV ayH)
def aot:FnSh:=⟨[.agg [.int .i64,.int .i64,.rof],.int .i64,.int .i64],[]⟩
def alU (at1:CQ):SPT:=λa_ c_=>match a_ with
 | [.int m_0,.int m_1,.fls m_2,.int i,.int j]=>at1 m_0 m_1 m_2 i j (λr0=>c_ (.flt r0) [])
 | _=>false
abbrev Wh (at1:CQ):Fs:=av aot (alU at1)
def aki:FnSh:=⟨[.flt,.flt],[]⟩
def afF (aub:Ec):SPT:=λa_ c_=>match a_ with
 | [.fl a,.fl b]=>aub a b (λr0=>c_ (.bool r0) [])
 | _=>false
abbrev Tv (aub:Ec):Fs:=av aki (afF aub)
def aeG:FnSh:=⟨[.agg [.int .i64,.int .i64,.rof]],[]⟩
def agk (az5:Np):SPT:=λa_ c_=>match a_ with
 | [.int m_0,.int m_1,.fls m_2]=>az5 m_0 m_1 m_2 (λr0=>c_ (vwi r0) [])
 | _=>false
abbrev amc (az5:Np):Fs:=av aeG (agk az5)
def akE:FnSh:=⟨[.agg [.rof,.int .i64,.int .i64,.rof]],[]⟩
def afZ (ayN:Hu):SPT:=λa_ c_=>match a_ with
 | [.fls s_0,.int s_1,.int s_2,.fls s_3]=>ayN s_0 s_1 s_2 s_3 (λr0=>c_ (vwi r0) [])
 | _=>false
abbrev Yz (ayN:Hu):Fs:=av akE (afZ ayN)
def VQ:FnSh:=⟨[.int .u64,.int .i64],[]⟩
def SK (auj:BL):SPT:=λa_ c_=>match a_ with
 | [.int m,.int e]=>auj m e (λr0 r1=>c_ (.tup [vwu r0,vwi r1]) [])
 | _=>false
abbrev TG (auj:BL):Fs:=av VQ (SK auj)
def DS:FnSh:=⟨[.flt],[]⟩
def SH (ayI:Ho):SPT:=λa_ c_=>match a_ with
 | [.fl x]=>ayI x (λr0 r1 r2 r3=>c_ (.tup [.agg [.bool r0,vwu r1,vwi r2],vwi r3]) [])
 | _=>false
abbrev Yt (ayI:Ho):Fs:=av DS (SH ayI)
def aeL:FnSh:=⟨[.slw 0],[some (195,1,.ints .u32)]⟩
def aoL (SQ7:jN):SPT:=λa_ c_=>match a_ with
 | [.ints b]=>SQ7 b (λr0=>c_ (.sl 0 0 r0) [⟨195,1,.ints .u32 b⟩])
 | _=>false
abbrev FQ7 (SQ7:jN):Fs:=av aeL (aoL SQ7)
def aj0:FnSh:=⟨[.int .u64],[]⟩
def afm (atC:tm):SPT:=λa_ c_=>match a_ with
 | [.int n]=>atC n (λr0=>c_ (vws r0) [])
 | _=>false
abbrev Kj (atC:tm):Fs:=av aj0 (afm atC)
def VL:FnSh:=⟨[.roi .u32],[]⟩
def SC (auX:tn):SPT:=λa_ c_=>match a_ with
 | [.ints m]=>auX m (λr0=>c_ (vws r0) [])
 | _=>false
abbrev Kk (auX:tn):Fs:=av VL (SC auX)
def ajG:FnSh:=⟨[.ptr 0 0,.bool,.roi .u32],[some (151,1,.cells [.bool,.nil])]⟩
def ae2 (atq:pP):SPT:=λa_ c_=>match a_ with
 | [.bool neg,.ints m,.bool b]=>atq neg m b (λr0 r1=>c_ (.ptr 0 0) [⟨151,1,.cells [.bool r0,vws r1]⟩])
 | _=>false
abbrev GA (atq:pP):Fs:=av ajG (ae2 atq)
def ajZ:FnSh:=⟨[.ptr 0 0,.int .u64],[some (151,1,.cells [.bool,.nil])]⟩
def afl (ayk:GX):SPT:=λa_ c_=>match a_ with
 | [.int n,.bool b]=>ayk n b (λr0 r1=>c_ (.ptr 0 0) [⟨151,1,.cells [.bool r0,vws r1]⟩])
 | _=>false
abbrev X3 (ayk:GX):Fs:=av ajZ (afl ayk)
def ako:FnSh:=⟨[.ptr 0 0,.bool,.slw 1],[some (151,1,.cells [.bool,.roi .u32]),some (195,1,.ints .u32)]⟩
def afL (ayD:Hh):SPT:=λa_ c_=>match a_ with
 | [.bool neg,.bool b,.ints b_1,.ints b_2]=>ayD neg b b_1 b_2 (λr0 r1 r2=>c_ (.ptr 0 0) [⟨151,1,.cells [.bool r0,.sl 1 r1 r2]⟩,⟨195,1,.ints .u32 b_2⟩])
 | _=>false
abbrev Yl (ayD:Hh):Fs:=av ako (afL ayD)
def akj:FnSh:=⟨[.ptr 0 0,.ptr 0 0],[some (151,1,.cells [.bool,.roi .u32])]⟩
def afG (ayz:Hc):SPT:=λa_ c_=>match a_ with
 | [.bool b,.ints b_1]=>ayz b b_1 (λr0 r1=>c_ (.ptr 0 0) [⟨151,1,.cells [.bool r0,vws r1]⟩])
 | _=>false
abbrev Yh (ayz:Hc):Fs:=av akj (afG ayz)
def akM:FnSh:=⟨[.flt],[]⟩
def af7 (ayU:HC):SPT:=λa_ c_=>match a_ with
 | [.fl x]=>ayU x (λr0 r1 r2=>c_ (.agg [.ptr 0 0,vwi r0]) [⟨151,1,.cells [.bool r1,vws r2]⟩])
 | _=>false
abbrev YG (ayU:HC):Fs:=av akM (af7 ayU)
def VT:FnSh:=⟨[.roi .u32,.int .u64],[]⟩
def SN (ayP:Hx):SPT:=λa_ c_=>match a_ with
 | [.ints m,.int n]=>ayP m n (λr0=>c_ (vws r0) [])
 | _=>false
abbrev YB (ayP:Hx):Fs:=av VT (SN ayP)
def ajW:FnSh:=⟨[.ptr 0 0,.ptr 1 0,.int .u64],[some (151,1,.cells [.bool,.nil]),some (151,1,.cells [.bool,.roi .u32])]⟩
def afi (awp:BA):SPT:=λa_ c_=>match a_ with
 | [.int n,.bool b,.bool b_1,.ints b_2]=>awp n b b_1 b_2 (λr0 r1=>c_ (.ptr 0 0) [⟨151,1,.cells [.bool r0,vws r1]⟩,⟨151,1,.cells [.bool b_1,vws b_2]⟩])
 | _=>false
abbrev Tl (awp:BA):Fs:=av ajW (afi awp)
def ajM:FnSh:=⟨[.agg [.ptr 0 0,.int .i64],.int .i64],[some (151,1,.cells [.bool,.roi .u32])]⟩
def ae8 (aya:GN):SPT:=λa_ c_=>match a_ with
 | [.int x,.int e,.bool b,.ints b_1]=>aya x e b b_1 (c_ (.agg [.ptr 0 0,vwi x]) [⟨151,1,.cells [.bool b,vws b_1]⟩]) (λr3 r4=>c_ (.agg [.ptr 1 0,vwi e]) [⟨151,1,.cells [.bool b,vws b_1]⟩,⟨151,1,.cells [.bool r3,vws r4]⟩])
 | _=>false
abbrev XT (aya:GN):Fs:=av ajM (ae8 aya)
def ajJ:FnSh:=⟨[],[]⟩
def ae6 (ass:l7):SPT:=λa_ c_=>match a_ with
 | []=>ass (λr0=>c_ (vws r0) [])
 | _=>false
abbrev CD (ass:l7):Fs:=av ajJ (ae6 ass)
def VB:FnSh:=⟨[.ptr 0 0,.bool,.roi .u32],[some (153,1,.cells [.bool,.nil,.bool,.nil])]⟩
def afa (atA:Bv):SPT:=λa_ c_=>match a_ with
 | [.bool neg,.ints m,.bool b,.bool b_1]=>atA neg m b b_1 (λr0 r1 r3=>c_ (.ptr 0 0) [⟨153,1,.cells [.bool r0,vws r1,.bool b_1,vws r3]⟩])
 | _=>false
abbrev Td (atA:Bv):Fs:=av VB (afa atA)
def aoB:FnSh:=⟨[.ptr 0 2,.bool,.roi .u32],[some (153,1,.cells [.bool,.roi .u32,.bool,.roi .u32])]⟩
def al2 (as_:yz):SPT:=λa_ c_=>match a_ with
 | [.bool neg,.ints m,.bool b,.ints b_1,.bool b_2,.ints b_3]=>as_ neg m b b_1 b_2 b_3 (λr2 r3=>c_ (.ptr 0 2) [⟨153,1,.cells [.bool b,vws b_1,.bool r2,vws r3]⟩])
 | _=>false
abbrev Wi (as_:yz):Fs:=av aoB (al2 as_)
def Mv:FnSh:=⟨[.int .u32],[]⟩
def agm (av7:Kw):SPT:=λa_ c_=>match a_ with
 | [.int x]=>av7 x (λr0=>c_ (vwi r0) [])
 | _=>false
abbrev agR (av7:Kw):Fs:=av Mv (agm av7)
def aew:FnSh:=⟨[.ptr 0 0],[some (151,1,.cells [.bool,.roi .u32])]⟩
def ae9 (as0:yp):SPT:=λa_ c_=>match a_ with
 | [.bool b,.ints b_1]=>as0 b b_1 (λr0=>c_ (vwu r0) [⟨151,1,.cells [.bool b,vws b_1]⟩])
 | _=>false
abbrev Wa (as0:yp):Fs:=av aew (ae9 as0)
def aeN:FnSh:=⟨[.roi .u32,.int .u64],[]⟩
def agu (asP:uF):SPT:=λa_ c_=>match a_ with
 | [.ints m,.int n]=>asP m n (λr0=>c_ (vws r0) [])
 | _=>false
abbrev M_ (asP:uF):Fs:=av aeN (agu asP)
def aj8:FnSh:=⟨[.int .u32],[]⟩
def afu (awq:BB):SPT:=λa_ c_=>match a_ with
 | [.int x]=>awq x (λr0=>c_ (vwi r0) [])
 | _=>false
abbrev Tm (awq:BB):Fs:=av aj8 (afu awq)
def aoe:FnSh:=⟨[.ptr 0 0],[some (151,1,.cells [.bool,.roi .u32])]⟩
def alF (asC:tu):SPT:=λa_ c_=>match a_ with
 | [.bool b,.ints b_1]=>asC b b_1 (λr0=>c_ (vwi r0) [⟨151,1,.cells [.bool b,vws b_1]⟩])
 | _=>false
abbrev M4 (asC:tu):Fs:=av aoe (alF asC)
def aev:FnSh:=⟨[.roi .u32,.roi .u32],[]⟩
def ae3 (ash:l6):SPT:=λa_ c_=>match a_ with
 | [.ints a,.ints b]=>ash a b (λr0=>c_ (vwi r0) [])
 | _=>false
abbrev GB (ash:l6):Fs:=av aev (ae3 ash)
def VG:FnSh:=⟨[.roi .u32,.int .i64],[]⟩
def Sv (atl:BC):SPT:=λa_ c_=>match a_ with
 | [.ints m,.int at_]=>atl m at_ (λr0=>c_ (vwu r0) [])
 | _=>false
abbrev To (atl:BC):Fs:=av VG (Sv atl)
def VE:FnSh:=⟨[.int .u64,.int .u64],[]⟩
def Sp (ato:Bz):SPT:=λa_ c_=>match a_ with
 | [.int x,.int y]=>ato x y (λr0 r1 r2 r3=>c_ (.tup [vwi r0,vwi r1,vwi r2,vwi r3]) [])
 | _=>false
abbrev Tk (ato:Bz):Fs:=av VE (Sp ato)
def aeQ:FnSh:=⟨[.roi .u32,.int .u32],[]⟩
def agx (ata:CV):SPT:=λa_ c_=>match a_ with
 | [.ints m,.int d]=>ata m d (λr0 r1=>c_ (.tup [vws r0,vwv r1]) [])
 | _=>false
abbrev ag6 (ata:CV):Fs:=av aeQ (agx ata)
def an_:FnSh:=⟨[.int .u32],[]⟩
def alA (as9:CI):SPT:=λa_ c_=>match a_ with
 | [.int x]=>as9 x (λr0=>c_ (vwi r0) [])
 | _=>false
abbrev agI (as9:CI):Fs:=av an_ (alA as9)
def aeA:FnSh:=⟨[.roi .u32,.int .u64],[]⟩
def agd (as5:CL):SPT:=λa_ c_=>match a_ with
 | [.ints m,.int n]=>as5 m n (c_ (.nil) []) (λr0 r1=>c_ (.sl 0 0 r0) [⟨195,1,.ints .u32 r1⟩])
 | _=>false
abbrev agM (as5:CL):Fs:=av aeA (agd as5)
def aeD:FnSh:=⟨[.sl 0,.sl 1,.int .i64,.int .u64],[some (195,1,.ints .u32),some (195,1,.ints .u32)]⟩
def agh (atf:CM):SPT:=λa_ c_=>match a_ with
 | [.nat u_0,.nat u_1,.nat d_0,.nat d_1,.int j,.int g,.ints b,.ints b_1]=>atf u_0 u_1 d_0 d_1 j g b b_1 (λr0 r1=>c_ (.bool r0) [⟨195,1,.ints .u32 r1⟩,⟨195,1,.ints .u32 b_1⟩])
 | _=>false
abbrev agO (atf:CM):Fs:=av aeD (agh atf)
def aeE:FnSh:=⟨[.sl 0,.sl 1,.int .i64],[some (195,1,.ints .u32),some (195,1,.ints .u32)]⟩
def agi (atg:CN):SPT:=λa_ c_=>match a_ with
 | [.nat u_0,.nat u_1,.nat d_0,.nat d_1,.int j,.ints b,.ints b_1]=>atg u_0 u_1 d_0 d_1 j b b_1 (λr0=>c_ (.tup []) [⟨195,1,.ints .u32 r0⟩,⟨195,1,.ints .u32 b_1⟩])
 | _=>false
abbrev agP (atg:CN):Fs:=av aeE (agi atg)
def aeR:FnSh:=⟨[.sl 0],[some (195,1,.ints .u32)]⟩
def agy (ati:CW):SPT:=λa_ c_=>match a_ with
 | [.nat m_0,.nat m_1,.ints b]=>ati m_0 m_1 b (λr1=>c_ (.sl 0 m_0 r1) [⟨195,1,.ints .u32 b⟩])
 | _=>false
abbrev ag7 (ati:CW):Fs:=av aeR (agy ati)
def aeH:FnSh:=⟨[.sl 0,.int .u64],[some (195,1,.ints .u32)]⟩
def ago (ath:CP):SPT:=λa_ c_=>match a_ with
 | [.nat m_0,.nat m_1,.int n,.ints b]=>ath m_0 m_1 n b (λr0=>c_ (vws r0) [⟨195,1,.ints .u32 b⟩])
 | _=>false
abbrev agV (ath:CP):Fs:=av aeH (ago ath)
def Jt:FnSh:=⟨[.roi .u32,.roi .u32],[]⟩
def agp (asz:tx):SPT:=λa_ c_=>match a_ with
 | [.ints a,.ints b]=>asz a b (λr0 r1=>c_ (.tup [vws r0,vws r1]) [])
 | _=>false
abbrev M9 (asz:tx):Fs:=av Jt (agp asz)
def Vz:FnSh:=⟨[.roi .u32,.roi .u32],[]⟩
def Sc (at7:pQ):SPT:=λa_ c_=>match a_ with
 | [.ints a,.ints b]=>at7 a b (λr0=>c_ (vws r0) [])
 | _=>false
abbrev GC (at7:pQ):Fs:=av Vz (Sc at7)
def VM:FnSh:=⟨[.roi .u32,.roi .u32],[]⟩
def SD (awd:BH):SPT:=λa_ c_=>match a_ with
 | [.ints a,.ints b]=>awd a b (λr0=>c_ (vws r0) [])
 | _=>false
abbrev Tw (awd:BH):Fs:=av VM (SD awd)
def akv:FnSh:=⟨[.roi .u32,.int .u64,.roi .u32,.int .u64],[]⟩
def afS (axE:Hl):SPT:=λa_ c_=>match a_ with
 | [.ints a,.int u,.ints b,.int v]=>axE a u b v (λr0=>c_ (vws r0) [])
 | _=>false
abbrev Yq (axE:Hl):Fs:=av akv (afS axE)
def akh:FnSh:=⟨[.roi .u32,.int .i64,.roi .u32,.int .i64],[]⟩
def afE (atm:BG):SPT:=λa_ c_=>match a_ with
 | [.ints a,.int u,.ints b,.int v]=>atm a u b v (λr0=>c_ (vws r0) [])
 | _=>false
abbrev Tu (atm:BG):Fs:=av akh (afE atm)
def Jv:FnSh:=⟨[.roi .u32,.roi .u32],[]⟩
def agw (atj:yA):SPT:=λa_ c_=>match a_ with
 | [.ints a,.ints b]=>atj a b (λr0=>c_ (vws r0) [])
 | _=>false
abbrev Wj (atj:yA):Fs:=av Jv (agw atj)
def Js:FnSh:=⟨[.ptr 0 0,.bool,.roi .u32,.roi .u32],[some (153,1,.cells [.bool,.nil,.bool,.nil])]⟩
def age (avY:yw):SPT:=λa_ c_=>match a_ with
 | [.bool neg,.ints a,.ints b,.bool b_1,.bool b_2]=>avY neg a b b_1 b_2 (λr0 r1 r2 r3=>c_ (.ptr 0 0) [⟨153,1,.cells [.bool r0,vws r1,.bool r2,vws r3]⟩])
 | _=>false
abbrev We (avY:yw):Fs:=av Js (age avY)
def ajz:FnSh:=⟨[.ptr 0 0,.ptr 1 0],[some (153,1,.cells [.bool,.nil,.bool,.nil]),some (151,1,.cells [.bool,.roi .u32])]⟩
def aeW (axC:GK):SPT:=λa_ c_=>match a_ with
 | [.bool b,.bool b_1,.bool b_2,.ints b_3]=>axC b b_1 b_2 b_3 (λr0 r1 r2 r3=>c_ (.ptr 0 0) [⟨153,1,.cells [.bool r0,vws r1,.bool r2,vws r3]⟩,⟨151,1,.cells [.bool b_2,vws b_3]⟩])
 | _=>false
abbrev XQ (axC:GK):Fs:=av ajz (aeW axC)
def DQ:FnSh:=⟨[.ptr 0 0,.int .i64],[some (151,1,.cells [.bool,.nil])]⟩
def Sr (ayp:G3):SPT:=λa_ c_=>match a_ with
 | [.int n,.bool b]=>ayp n b (λr0 r1=>c_ (.ptr 0 0) [⟨151,1,.cells [.bool r0,vws r1]⟩])
 | _=>false
abbrev X8 (ayp:G3):Fs:=av DQ (Sr ayp)
def aku:FnSh:=⟨[.int .i64],[]⟩
def afR (ayF:Hk):SPT:=λa_ c_=>match a_ with
 | [.int n]=>ayF n (λr0 r1=>c_ (.ptr 0 0) [⟨151,1,.cells [.bool r0,vws r1]⟩])
 | _=>false
abbrev Yp (ayF:Hk):Fs:=av aku (afR ayF)
def aoD:FnSh:=⟨[.ptr 0 0,.ptr 1 0,.ptr 2 0],[some (153,1,.cells [.bool,.nil,.bool,.nil]),some (151,1,.cells [.bool,.roi .u32]),some (151,1,.cells [.bool,.roi .u32])]⟩
def al4 (az7:Nr):SPT:=λa_ c_=>match a_ with
 | [.bool b,.bool b_1,.bool b_2,.ints b_3,.bool b_4,.ints b_5]=>az7 b b_1 b_2 b_3 b_4 b_5 (λr0 r1 r2 r3=>c_ (.ptr 0 0) [⟨153,1,.cells [.bool r0,vws r1,.bool r2,vws r3]⟩,⟨151,1,.cells [.bool b_2,vws b_3]⟩,⟨151,1,.cells [.bool b_4,vws b_5]⟩])
 | _=>false
abbrev ame (az7:Nr):Fs:=av aoD (al4 az7)
def ajS:FnSh:=⟨[.agg [.ptr 0 0,.int .i64]],[some (151,1,.cells [.bool,.roi .u32])]⟩
def aff (ayh:GU):SPT:=λa_ c_=>match a_ with
 | [.int x,.bool b,.ints b_1]=>ayh x b b_1 (λr2 r3 r4 r5=>c_ (.ptr 1 0) [⟨151,1,.cells [.bool b,vws b_1]⟩,⟨153,1,.cells [.bool r2,vws r3,.bool r4,vws r5]⟩])
 | _=>false
abbrev X0 (ayh:GU):Fs:=av ajS (aff ayh)
def akp:FnSh:=⟨[.flt],[]⟩
def afM (auB:Ed):SPT:=λa_ c_=>match a_ with
 | [.fl x]=>auB x (λr0 r1 r2 r3=>c_ (.ptr 0 0) [⟨153,1,.cells [.bool r0,vws r1,.bool r2,vws r3]⟩])
 | _=>false
abbrev Tx (auB:Ed):Fs:=av akp (afM auB)
def VP:FnSh:=⟨[.agg [.int .i64,.int .i64,.rof]],[]⟩
def SI (ayJ:Hp):SPT:=λa_ c_=>match a_ with
 | [.int m_0,.int m_1,.fls m_2]=>ayJ m_0 m_1 m_2 (λr2=>c_ (.agg [vwi m_0,vwi m_1,.slw 0]) [⟨146,1,.own 153 RT2 r2 []⟩])
 | _=>false
abbrev Yu (ayJ:Hp):Fs:=av VP (SI ayJ)
def akD:FnSh:=⟨[.agg [.int .i64,.int .i64,.rof]],[]⟩
def afY (ayM:Ht):SPT:=λa_ c_=>match a_ with
 | [.int m_0,.int m_1,.fls m_2]=>ayM m_0 m_1 m_2 (λr2=>c_ (.agg [vwi m_0,vwi m_1,.slw 0]) [⟨146,1,.own 153 RT2 r2 []⟩])
 | _=>false
abbrev Yy (ayM:Ht):Fs:=av akD (afY ayM)
def VH:FnSh:=⟨[.int .i64,.int .i64],[]⟩
def Sx (auA:Eb):SPT:=λa_ c_=>match a_ with
 | [.int rows,.int cols]=>auA rows cols (λr2=>c_ (.agg [vwi rows,vwi cols,.slw 0]) [⟨146,1,.own 153 RT2 r2 []⟩])
 | _=>false
abbrev Tt (auA:Eb):Fs:=av VH (Sx auA)
def aj_:FnSh:=⟨[.rp [.bool,.roi .u32,.bool,.roi .u32] 0],[]⟩
def Su (awZ:Ea):SPT:=λa_ c_=>match a_ with
 | [.bool r_0,.ints r_1,.bool r_2,.ints r_3]=>awZ r_0 r_1 r_2 r_3 (λr0=>c_ (vws r0) [])
 | _=>false
abbrev Tn (awZ:Ea):Fs:=av aj_ (Su awZ)
theorem si (awZ:Ea):FrF 2 (Tn awZ):=by
 refine tD λa k h=>?_
 unfold Su at h ⊢;split at h
 ·rename_i aFf aFg aFh aFi;refine⟨[],rfl,?_⟩;simp only[kC,kD,decide_true,Bool.and_true];exact h
 ·cases h
def VI:FnSh:=⟨[.ptr 0 0,.bool,.slw 1],[some (153,1,.cells [.bool,.roi .u32,.bool,.roi .u32]),some (195,1,.ints .u32)]⟩
def afD (ayw:G_):SPT:=λa_ c_=>match a_ with
 | [.bool neg,.bool b,.ints b_1,.bool b_2,.ints b_3,.ints b_4]=>ayw neg b b_1 b_2 b_3 b_4 (λr0 r1 r2=>c_ (.ptr 0 0) [⟨153,1,.cells [.bool r0,.sl 1 r1 r2,.bool b_2,vws b_3]⟩,⟨195,1,.ints .u32 b_4⟩])
 | _=>false
abbrev Ye (ayw:G_):Fs:=av VI (afD ayw)
def ake:FnSh:=⟨[.ptr 0 2,.bool,.slw 1],[some (153,1,.cells [.bool,.sl 2,.bool,.roi .u32]),some (195,1,.ints .u32),some (195,1,.ints .u32)]⟩
def afA (ayv:G9):SPT:=λa_ c_=>match a_ with
 | [.bool neg,.bool b,.nat b_1,.nat b_2,.bool b_3,.ints b_4,.ints b_5,.ints b_6]=>ayv neg b b_1 b_2 b_3 b_4 b_5 b_6 (λr3 r4 r5=>c_ (.ptr 0 2) [⟨153,1,.cells [.bool b,.sl 2 b_1 b_2,.bool r3,.sl 1 r4 r5]⟩,⟨195,1,.ints .u32 b_5⟩,⟨195,1,.ints .u32 b_6⟩])
 | _=>false
abbrev Yd (ayv:G9):Fs:=av ake (afA ayv)
def ajC:FnSh:=⟨[.ptr 0 0,.rp [.bool,.roi .u32,.bool,.roi .u32] 0],[some (153,1,.cells [.bool,.roi .u32,.bool,.roi .u32])]⟩
def aeY (auz:D7):SPT:=λa_ c_=>match a_ with
 | [.bool x_0,.ints x_1,.bool x_2,.ints x_3,.bool b,.ints b_1,.bool b_2,.ints b_3]=>auz x_0 x_1 x_2 x_3 b b_1 b_2 b_3 (λr0 r1 r2 r3=>c_ (.ptr 0 0) [⟨153,1,.cells [.bool r0,vws r1,.bool r2,vws r3]⟩])
 | _=>false
abbrev SX (auz:D7):Fs:=av ajC (aeY auz)
def aeC:FnSh:=⟨[.agg [.int .i64,.int .i64,.rl RT3]],[]⟩
def agf (atU:HF):SPT:=λa_ c_=>match a_ with
 | [.int m_0,.int m_1,.recs t2_ m_2]=>RT.cast RT3 t2_ m_2 (λm_2=>atU m_0 m_1 m_2 (λr2=>c_ (.agg [vwi m_0,vwi m_1,.slw 0]) [⟨146,1,.own 153 RT2 r2 []⟩])) false
 | _=>false
abbrev agN (atU:HF):Fs:=av aeC (agf atU)
def aoh:FnSh:=⟨[.agg [.int .i64,.int .i64,.slw 0],.int .i64,.int .i64],[some (146,1,.own 153 RT2)]⟩
def alI (as7:A2):SPT:=λa_ c_=>match a_ with
 | [.int m_0,.int m_1,.int i,.int j,.recs t4_ b]=>RT.cast RT2 t4_ b (λb=>as7 m_0 m_1 i j b (λr0=>c_ (.opt 0 r0 0) [⟨146,1,.own 153 RT2 b []⟩])) false
 | _=>false
abbrev Wc (as7:A2):Fs:=av aoh (alI as7)
def akL:FnSh:=⟨[.rp [.bool,.roi .u32,.bool,.roi .u32] 0],[]⟩
def af6 (ayT:HB):SPT:=λa_ c_=>match a_ with
 | [.bool z_0,.ints z_1,.bool z_2,.ints z_3]=>ayT z_0 z_1 z_2 z_3 (λr0=>c_ (vwi r0) [])
 | _=>false
abbrev YF (ayT:HB):Fs:=av akL (af6 ayT)
def aoF:FnSh:=⟨[.rp [.bool,.roi .u32,.bool,.roi .u32] 0],[]⟩
def al6 (atK:HN):SPT:=λa_ c_=>match a_ with
 | [.bool r_0,.ints r_1,.bool r_2,.ints r_3]=>atK r_0 r_1 r_2 r_3 (λr0=>c_ (vwi r0) [])
 | _=>false
abbrev ag3 (atK:HN):Fs:=av aoF (al6 atK)
def aoi:FnSh:=⟨[.ptr 0 0],[some (153,1,.cells [.bool,.roi .u32,.bool,.roi .u32])]⟩
def agb (au_:xx):SPT:=λa_ c_=>match a_ with
 | [.bool b,.ints b_1,.bool b_2,.ints b_3]=>au_ b b_1 b_2 b_3 (λr0=>c_ (vws r0) [⟨153,1,.cells [.bool b,vws b_1,.bool b_2,vws b_3]⟩])
 | _=>false
abbrev PX (au_:xx):Fs:=av aoi (agb au_)
theorem dB (au_:xx):FrF 2 (PX au_):=by
 refine tD λa k h=>?_
 unfold agb at h ⊢;split at h
 ·rename_i p_b auD auu auv;refine⟨[⟨153,1,.cells [.bool p_b,vws auD,.bool auu,vws auv]⟩],rfl,?_⟩;simp only[kC,kD,decide_true,Bool.and_true];exact h
 ·cases h
def aoc:FnSh:=⟨[.ptr 0 0,.ptr 1 0,.ptr 2 0],[some (153,1,.cells [.bool,.nil,.bool,.nil]),some (153,1,.cells [.bool,.roi .u32,.bool,.roi .u32]),some (153,1,.cells [.bool,.roi .u32,.bool,.roi .u32])]⟩
def alD (atS:Hv):SPT:=λa_ c_=>match a_ with
 | [.bool b,.bool b_1,.bool b_2,.ints b_3,.bool b_4,.ints b_5,.bool b_6,.ints b_7,.bool b_8,.ints b_9]=>atS b b_1 b_2 b_3 b_4 b_5 b_6 b_7 b_8 b_9 (λr0 r1 r2 r3=>c_ (.ptr 0 0) [⟨153,1,.cells [.bool r0,vws r1,.bool r2,vws r3]⟩,⟨153,1,.cells [.bool b_2,vws b_3,.bool b_4,vws b_5]⟩,⟨153,1,.cells [.bool b_6,vws b_7,.bool b_8,vws b_9]⟩])
 | _=>false
abbrev agJ (atS:Hv):Fs:=av aoc (alD atS)
def aon:FnSh:=⟨[.ptr 0 0,.ptr 1 0,.ptr 2 0],[some (153,1,.cells [.bool,.nil,.bool,.nil]),some (153,1,.cells [.bool,.roi .u32,.bool,.roi .u32]),some (153,1,.cells [.bool,.roi .u32,.bool,.roi .u32])]⟩
def alO (avF:Kv):SPT:=λa_ c_=>match a_ with
 | [.bool b,.bool b_1,.bool b_2,.ints b_3,.bool b_4,.ints b_5,.bool b_6,.ints b_7,.bool b_8,.ints b_9]=>avF b b_1 b_2 b_3 b_4 b_5 b_6 b_7 b_8 b_9 (λr0 r1 r2 r3=>c_ (.ptr 0 0) [⟨153,1,.cells [.bool r0,vws r1,.bool r2,vws r3]⟩,⟨153,1,.cells [.bool b_2,vws b_3,.bool b_4,vws b_5]⟩,⟨153,1,.cells [.bool b_6,vws b_7,.bool b_8,vws b_9]⟩])
 | _=>false
abbrev agQ (avF:Kv):Fs:=av aon (alO avF)
def ajR:FnSh:=⟨[.ptr 0 0,.ptr 1 0],[some (153,1,.cells [.bool,.roi .u32,.bool,.roi .u32]),some (153,1,.cells [.bool,.roi .u32,.bool,.roi .u32])]⟩
def afe (ayg:GT):SPT:=λa_ c_=>match a_ with
 | [.bool b,.ints b_1,.bool b_2,.ints b_3,.bool b_4,.ints b_5,.bool b_6,.ints b_7]=>ayg b b_1 b_2 b_3 b_4 b_5 b_6 b_7 (λr9 r11=>c_ (.tup [.ptr 2 0,.ptr 3 0]) [⟨153,1,.cells [.bool b,vws b_1,.bool b_2,vws b_3]⟩,⟨153,1,.cells [.bool b_4,vws b_5,.bool b_6,vws b_7]⟩,⟨151,1,.cells [.bool b,vws r9]⟩,⟨151,1,.cells [.bool b_4,vws r11]⟩])
 | _=>false
abbrev XZ (ayg:GT):Fs:=av ajR (afe ayg)
def VU:FnSh:=⟨[.roi .u32,.roi .u32],[]⟩
def SO (ayQ:Hy):SPT:=λa_ c_=>match a_ with
 | [.ints a,.ints b]=>ayQ a b (λr0=>c_ (vws r0) [])
 | _=>false
abbrev YC (ayQ:Hy):Fs:=av VU (SO ayQ)
def aj3:FnSh:=⟨[.ptr 0 0,.ptr 1 0,.ptr 2 0,.bool],[some (151,1,.cells [.bool,.nil]),some (151,1,.cells [.bool,.roi .u32]),some (151,1,.cells [.bool,.roi .u32])]⟩
def afp (ayn:G0):SPT:=λa_ c_=>match a_ with
 | [.bool turn,.bool b,.bool b_1,.ints b_2,.bool b_3,.ints b_4]=>ayn turn b b_1 b_2 b_3 b_4 (λr0 r1=>c_ (.ptr 0 0) [⟨151,1,.cells [.bool r0,vws r1]⟩,⟨151,1,.cells [.bool b_1,vws b_2]⟩,⟨151,1,.cells [.bool b_3,vws b_4]⟩])
 | _=>false
abbrev X6 (ayn:G0):Fs:=av aj3 (afp ayn)
def aj2:FnSh:=⟨[.ptr 0 0,.ptr 1 0,.ptr 2 0],[some (151,1,.cells [.bool,.nil]),some (151,1,.cells [.bool,.roi .u32]),some (151,1,.cells [.bool,.roi .u32])]⟩
def afo (aym:GZ):SPT:=λa_ c_=>match a_ with
 | [.bool b,.bool b_1,.ints b_2,.bool b_3,.ints b_4]=>aym b b_1 b_2 b_3 b_4 (λr0 r1=>c_ (.ptr 0 0) [⟨151,1,.cells [.bool r0,vws r1]⟩,⟨151,1,.cells [.bool b_1,vws b_2]⟩,⟨151,1,.cells [.bool b_3,vws b_4]⟩])
 | _=>false
abbrev X5 (aym:GZ):Fs:=av aj2 (afo aym)
def Vw:FnSh:=⟨[.ptr 0 0,.bool,.roi .u32],[some (153,1,.cells [.bool,.roi .u32,.bool,.roi .u32])]⟩
def aeX (atz:Bm):SPT:=λa_ c_=>match a_ with
 | [.bool neg,.ints m,.bool b,.ints b_1,.bool b_2,.ints b_3]=>atz neg m b b_1 b_2 b_3 (λr0 r1=>c_ (.ptr 0 0) [⟨153,1,.cells [.bool r0,vws r1,.bool b_2,vws b_3]⟩])
 | _=>false
abbrev SW (atz:Bm):Fs:=av Vw (aeX atz)
def DM:FnSh:=⟨[.ptr 0 0,.bool,.roi .u32,.roi .u32],[some (153,1,.cells [.bool,.roi .u32,.bool,.roi .u32])]⟩
def Si (ayb:GO):SPT:=λa_ c_=>match a_ with
 | [.bool neg,.ints a,.ints b,.bool b_1,.ints b_2,.bool b_3,.ints b_4]=>ayb neg a b b_1 b_2 b_3 b_4 (λr0 r1 r2 r3=>c_ (.ptr 0 0) [⟨153,1,.cells [.bool r0,vws r1,.bool r2,vws r3]⟩])
 | _=>false
abbrev XU (ayb:GO):Fs:=av DM (Si ayb)
def aor:FnSh:=⟨[.ptr 0 0,.ptr 0 0,.ptr 1 0],[some (153,1,.cells [.bool,.roi .u32,.bool,.roi .u32]),some (153,1,.cells [.bool,.roi .u32,.bool,.roi .u32])]⟩
def alR (avG:Kx):SPT:=λa_ c_=>match a_ with
 | [.bool b,.ints b_1,.bool b_2,.ints b_3,.bool b_4,.ints b_5,.bool b_6,.ints b_7]=>avG b b_1 b_2 b_3 b_4 b_5 b_6 b_7 (λr0 r1 r2 r3=>c_ (.ptr 0 0) [⟨153,1,.cells [.bool r0,vws r1,.bool r2,vws r3]⟩,⟨153,1,.cells [.bool b_4,vws b_5,.bool b_6,vws b_7]⟩])
 | _=>false
abbrev agU (avG:Kx):Fs:=av aor (alR avG)
def aey:FnSh:=⟨[.agg [.int .i64,.int .i64,.slw 0],.int .i64,.int .i64,.ptr 1 0],[some (146,1,.own 153 RT2),some (153,1,.cells [.bool,.roi .u32,.bool,.roi .u32])]⟩
def aga (atT:HD):SPT:=λa_ c_=>match a_ with
 | [.int m_0,.int m_1,.int i,.int k_,.recs t4_ b,.bool b_1,.ints b_2,.bool b_3,.ints b_4]=>RT.cast RT2 t4_ b (λb=>atT m_0 m_1 i k_ b b_1 b_2 b_3 b_4 (λr0=>c_ (.tup []) [⟨146,1,.own 153 RT2 r0 []⟩,⟨153,1,.cells [.bool b_1,vws b_2,.bool b_3,vws b_4]⟩])) false
 | _=>false
abbrev agL (atT:HD):Fs:=av aey (aga atT)
def VF:FnSh:=⟨[.agg [.int .i64,.int .i64,.rl RT3]],[]⟩
def Sq (ayo:G2):SPT:=λa_ c_=>match a_ with
 | [.int m_0,.int m_1,.recs t2_ m_2]=>RT.cast RT3 t2_ m_2 (λm_2=>ayo m_0 m_1 m_2 (λr0=>c_ (vwi r0) [])) false
 | _=>false
abbrev X7 (ayo:G2):Fs:=av VF (Sq ayo)
def aj9:FnSh:=⟨[.agg [.int .i64,.int .i64,.rof]],[]⟩
def afv (ayt:G7):SPT:=λa_ c_=>match a_ with
 | [.int m_0,.int m_1,.fls m_2]=>ayt m_0 m_1 m_2 (λr0=>c_ (.bool r0) [])
 | _=>false
abbrev Yb (ayt:G7):Fs:=av aj9 (afv ayt)
def aoa:FnSh:=⟨[.agg [.rof,.int .i64,.int .i64,.rof]],[]⟩
def alB (auY:CJ):SPT:=λa_ c_=>match a_ with
 | [.fls s_0,.int s_1,.int s_2,.fls s_3]=>auY s_0 s_1 s_2 s_3 (λr0=>c_ (vwi r0) [])
 | _=>false
abbrev Wb (auY:CJ):Fs:=av aoa (alB auY)
def aod:FnSh:=⟨[.ptr 0 0,.flt],[some (89,1,.cells [.bool])]⟩
def alE (av6:Ku):SPT:=λa_ c_=>match a_ with
 | [.fl x,.bool b]=>av6 x b (λr1=>c_ (.flt x) [⟨89,1,.cells [.bool r1]⟩])
 | _=>false
abbrev agK (av6:Ku):Fs:=av aod (alE av6)
def VO:FnSh:=⟨[.agg [.rof,.int .i64,.int .i64,.rof]],[]⟩
def SF (avU:Ee):SPT:=λa_ c_=>match a_ with
 | [.fls t_0,.int t_1,.int t_2,.fls t_3]=>avU t_0 t_1 t_2 t_3 (λr0 r1=>c_ (.tup [.flt r0,vwi r1]) [])
 | _=>false
abbrev TB (avU:Ee):Fs:=av VO (SF avU)
def aq1:FnSh:=⟨[.flt,.flt],[]⟩
def aq6 (SQ3:P8):SPT:=λa_ c_=>match a_ with
 | [.fl a,.fl b]=>SQ3 a b (λr0=>c_ (.bool r0) [])
 | _=>false
abbrev FQ3 (SQ3:P8):Fs:=av aq1 (aq6 SQ3)
def Gl:FnSh:=⟨[.int .i64,.rof,.flt],[]⟩
def zP (asx:ka):SPT:=λa_ c_=>match a_ with
 | [.int n,.fls h,.fl r]=>asx n h r (λr0=>c_ (vwi r0) [])
 | _=>false
abbrev qk (asx:ka):Fs:=av Gl (zP asx)
def Jw:FnSh:=⟨[.agg [.int .i64,.int .i64,.rof],.int .i64],[]⟩
def Bh (asH:lj):SPT:=λa_ c_=>match a_ with
 | [.int m_0,.int m_1,.fls m_2,.int i]=>asH m_0 m_1 m_2 i (λr0=>c_ (.rof r0) [])
 | _=>false
abbrev r_ (asH:lj):Fs:=av Jw (Bh asH)
def XB:FnSh:=⟨[.flt],[]⟩
def JC (awf:yB):SPT:=λa_ c_=>match a_ with
 | [.fl x]=>awf x (λr0=>c_ (.flt r0) [])
 | _=>false
abbrev Lv (awf:yB):Fs:=av XB (JC awf)
def akk:FnSh:=⟨[.flt,.int .i64],[]⟩
def afH (avy:wF):SPT:=λa_ c_=>match a_ with
 | [.fl f,.int sign]=>avy f sign (λr0=>c_ (.bool r0) [])
 | _=>false
abbrev M3 (avy:wF):Fs:=av akk (afH avy)
def ajB:FnSh:=⟨[.ptr 0 0,.flt],[some (85,1,.cells [.bool,.rof,.int .i64,.int .i64,.rof,.rof,.flt,.flt,.nil,.nil,.flt])]⟩
def R8 (aua:wA):SPT:=λa_ c_=>match a_ with
 | [.fl x,.bool b,.fls b_1,.int b_2,.int b_3,.fls b_4,.fls b_5,.fl b_6,.fl b_7,.fl b_8]=>aua x b b_1 b_2 b_3 b_4 b_5 b_6 b_7 b_8 (λr1=>c_ (.flt x) [⟨85,1,.cells [.bool r1,.rof b_1,vwi b_2,vwi b_3,.rof b_4,.rof b_5,.flt b_6,.flt b_7,.nil,.nil,.flt b_8]⟩])
 | _=>false
abbrev Kf (aua:wA):Fs:=av ajB (R8 aua)
theorem mb (aua:wA):FrF 1 (Kf aua):=by
 refine tD λa k h=>?_
 unfold R8 at h ⊢;split at h
 ·rename_i p_x p_b auD auu auv auM auN auO auP auQ;refine⟨[⟨85,1,.cells [.bool p_b,.rof auD,vwi auu,vwi auv,.rof auM,.rof auN,.flt auO,.flt auP,.nil,.nil,.flt auQ]⟩],rfl,?_⟩;simp only[kC,kD,decide_true,Bool.and_true];exact h
 ·cases h
def ajK:FnSh:=⟨[.ptr 0 0,.flt,.flt],[some (85,1,.cells [.bool,.rof,.int .i64,.int .i64,.rof,.rof,.flt,.flt,.nil,.nil,.flt])]⟩
def Sd (auK:Bt):SPT:=λa_ c_=>match a_ with
 | [.fl a,.fl b,.bool b_1,.fls b_2,.int b_3,.int b_4,.fls b_5,.fls b_6,.fl b_7,.fl b_8,.fl b_9]=>auK a b b_1 b_2 b_3 b_4 b_5 b_6 b_7 b_8 b_9 (λr0 r1=>c_ (.flt r0) [⟨85,1,.cells [.bool r1,.rof b_2,vwi b_3,vwi b_4,.rof b_5,.rof b_6,.flt b_7,.flt b_8,.nil,.nil,.flt b_9]⟩])
 | _=>false
abbrev MW (auK:Bt):Fs:=av ajK (Sd auK)
theorem sk (auK:Bt):FrF 1 (MW auK):=by
 refine tD λa k h=>?_
 unfold Sd at h ⊢;split at h
 ·rename_i p_a p_b auD auu auv auM auN auO auP auQ au2;refine⟨[⟨85,1,.cells [.bool auD,.rof auu,vwi auv,vwi auM,.rof auN,.rof auO,.flt auP,.flt auQ,.nil,.nil,.flt au2]⟩],rfl,?_⟩;simp only[kC,kD,decide_true,Bool.and_true];exact h
 ·cases h
def Ms:FnSh:=⟨[.ptr 0 0,.rof,.rof],[some (85,1,.cells [.bool,.rof,.int .i64,.int .i64,.rof,.rof,.flt,.flt,.nil,.nil,.flt])]⟩
def MC (auS:Bs):SPT:=λa_ c_=>match a_ with
 | [.fls a,.fls b,.bool b_1,.fls b_2,.int b_3,.int b_4,.fls b_5,.fls b_6,.fl b_7,.fl b_8,.fl b_9]=>auS a b b_1 b_2 b_3 b_4 b_5 b_6 b_7 b_8 b_9 (λr0 r1=>c_ (.flt r0) [⟨85,1,.cells [.bool r1,.rof b_2,vwi b_3,vwi b_4,.rof b_5,.rof b_6,.flt b_7,.flt b_8,.nil,.nil,.flt b_9]⟩])
 | _=>false
abbrev MV (auS:Bs):Fs:=av Ms (MC auS)
theorem sj (auS:Bs):FrF 1 (MV auS):=by
 refine tD λa k h=>?_
 unfold MC at h ⊢;split at h
 ·rename_i p_a p_b auD auu auv auM auN auO auP auQ au2;refine⟨[⟨85,1,.cells [.bool auD,.rof auu,vwi auv,vwi auM,.rof auN,.rof auO,.flt auP,.flt auQ,.nil,.nil,.flt au2]⟩],rfl,?_⟩;simp only[kC,kD,decide_true,Bool.and_true];exact h
 ·cases h
def alw:FnSh:=⟨[.ptr 0 0,.flt],[some (85,1,.cells [.bool,.rof,.int .i64,.int .i64,.rof,.rof,.flt,.flt,.slw 1,.nil,.flt]),some (33,1,.flts)]⟩
def aoK (SQ6:uW):SPT:=λa_ c_=>match a_ with
 | [.fl x,.bool b,.fls b_1,.int b_2,.int b_3,.fls b_4,.fls b_5,.fl b_6,.fl b_7,.fl b_8,.fls b_9]=>SQ6 x b b_1 b_2 b_3 b_4 b_5 b_6 b_7 b_8 b_9 (λr1=>c_ (.flt x) [⟨85,1,.cells [.bool r1,.rof b_1,vwi b_2,vwi b_3,.rof b_4,.rof b_5,.flt b_6,.flt b_7,.slw 1,.nil,.flt b_8]⟩,⟨33,1,.flts b_9⟩])
 | _=>false
abbrev FQ6 (SQ6:uW):Fs:=av alw (aoK SQ6)
theorem dC (SQ6:uW):FrF 1 (FQ6 SQ6):=by
 refine tD λa k h=>?_
 unfold aoK at h ⊢;split at h
 ·rename_i p_x p_b auD auu auv auM auN auO auP auQ au2;refine⟨[⟨85,1,.cells [.bool p_b,.rof auD,vwi auu,vwi auv,.rof auM,.rof auN,.flt auO,.flt auP,.slw 1,.nil,.flt auQ]⟩,⟨33,1,.flts au2⟩],rfl,?_⟩;simp only[kC,kD,decide_true,Bool.and_true];exact h
 ·cases h
def aop:FnSh:=⟨[.ptr 0 0,.flt,.flt],[some (85,1,.cells [.bool,.rof,.int .i64,.int .i64,.rof,.rof,.flt,.flt,.slw 1,.nil,.flt]),some (33,1,.flts)]⟩
def agl (auk:CO):SPT:=λa_ c_=>match a_ with
 | [.fl a,.fl b,.bool b_1,.fls b_2,.int b_3,.int b_4,.fls b_5,.fls b_6,.fl b_7,.fl b_8,.fl b_9,.fls asW]=>auk a b b_1 b_2 b_3 b_4 b_5 b_6 b_7 b_8 b_9 asW (λr0 r1=>c_ (.flt r0) [⟨85,1,.cells [.bool r1,.rof b_2,vwi b_3,vwi b_4,.rof b_5,.rof b_6,.flt b_7,.flt b_8,.slw 1,.nil,.flt b_9]⟩,⟨33,1,.flts asW⟩])
 | _=>false
abbrev Wg (auk:CO):Fs:=av aop (agl auk)
theorem kV (auk:CO):FrF 1 (Wg auk):=by
 refine tD λa k h=>?_
 unfold agl at h ⊢;split at h
 ·rename_i p_a p_b auD auu auv auM auN auO auP auQ au2 avC;refine⟨[⟨85,1,.cells [.bool auD,.rof auu,vwi auv,vwi auM,.rof auN,.rof auO,.flt auP,.flt auQ,.slw 1,.nil,.flt au2]⟩,⟨33,1,.flts avC⟩],rfl,?_⟩;simp only[kC,kD,decide_true,Bool.and_true];exact h
 ·cases h
def RY:FnSh:=⟨[.ptr 0 0,.rof,.rof],[some (85,1,.cells [.bool,.rof,.int .i64,.int .i64,.rof,.rof,.flt,.flt,.slw 1,.nil,.flt]),some (33,1,.flts)]⟩
def VZ (avH:HQ):SPT:=λa_ c_=>match a_ with
 | [.fls a,.fls b,.bool b_1,.fls b_2,.int b_3,.int b_4,.fls b_5,.fls b_6,.fl b_7,.fl b_8,.fl b_9,.fls asW]=>avH a b b_1 b_2 b_3 b_4 b_5 b_6 b_7 b_8 b_9 asW (λr0 r1=>c_ (.flt r0) [⟨85,1,.cells [.bool r1,.rof b_2,vwi b_3,vwi b_4,.rof b_5,.rof b_6,.flt b_7,.flt b_8,.slw 1,.nil,.flt b_9]⟩,⟨33,1,.flts asW⟩])
 | _=>false
abbrev YO (avH:HQ):Fs:=av RY (VZ avH)
theorem rf (avH:HQ):FrF 1 (YO avH):=by
 refine tD λa k h=>?_
 unfold VZ at h ⊢;split at h
 ·rename_i p_a p_b auD auu auv auM auN auO auP auQ au2 avC;refine⟨[⟨85,1,.cells [.bool auD,.rof auu,vwi auv,vwi auM,.rof auN,.rof auO,.flt auP,.flt auQ,.slw 1,.nil,.flt au2]⟩,⟨33,1,.flts avC⟩],rfl,?_⟩;simp only[kC,kD,decide_true,Bool.and_true];exact h
 ·cases h
def aeP:FnSh:=⟨[.ptr 0 0,.rof,.slw 1],[some (85,1,.cells [.bool,.rof,.int .i64,.int .i64,.rof,.rof,.flt,.flt,.slw 1,.nil,.flt]),some (33,1,.flts)]⟩
def VY (avO:HL):SPT:=λa_ c_=>match a_ with
 | [.fls a,.bool b,.fls b_1,.int b_2,.int b_3,.fls b_4,.fls b_5,.fl b_6,.fl b_7,.fl b_8,.fls b_9]=>avO a b b_1 b_2 b_3 b_4 b_5 b_6 b_7 b_8 b_9 (λr0 r1=>c_ (.flt r0) [⟨85,1,.cells [.bool r1,.rof b_1,vwi b_2,vwi b_3,.rof b_4,.rof b_5,.flt b_6,.flt b_7,.slw 1,.nil,.flt b_8]⟩,⟨33,1,.flts b_9⟩])
 | _=>false
abbrev YN (avO:HL):Fs:=av aeP (VY avO)
theorem pV (avO:HL):FrF 1 (YN avO):=by
 refine tD λa k h=>?_
 unfold VY at h ⊢;split at h
 ·rename_i p_a p_b auD auu auv auM auN auO auP auQ au2;refine⟨[⟨85,1,.cells [.bool p_b,.rof auD,vwi auu,vwi auv,.rof auM,.rof auN,.flt auO,.flt auP,.slw 1,.nil,.flt auQ]⟩,⟨33,1,.flts au2⟩],rfl,?_⟩;simp only[kC,kD,decide_true,Bool.and_true];exact h
 ·cases h
def ajA:FnSh:=⟨[.ptr 0 0],[some (85,1,.cells [.bool,.rof,.int .i64,.int .i64,.rof,.rof,.flt,.flt,.slw 1,.nil,.flt]),some (33,1,.flts)]⟩
def R7 (auJ:Bl):SPT:=λa_ c_=>match a_ with
 | [.bool b,.fls b_1,.int b_2,.int b_3,.fls b_4,.fls b_5,.fl b_6,.fl b_7,.fl b_8,.fls b_9]=>auJ b b_1 b_2 b_3 b_4 b_5 b_6 b_7 b_8 b_9 (c_ (.bool b) [⟨85,1,.cells [.bool b,.rof b_1,vwi b_2,vwi b_3,.rof b_4,.rof b_5,.flt b_6,.flt b_7,.slw 1,.nil,.flt b_8]⟩,⟨33,1,.flts b_9⟩])
 | _=>false
abbrev MU (auJ:Bl):Fs:=av ajA (R7 auJ)
theorem qB (auJ:Bl):FrF 2 (MU auJ):=by
 refine tD λa k h=>?_
 unfold R7 at h ⊢;split at h
 ·rename_i p_b auD auu auv auM auN auO auP auQ au2;refine⟨[⟨85,1,.cells [.bool p_b,.rof auD,vwi auu,vwi auv,.rof auM,.rof auN,.flt auO,.flt auP,.slw 1,.nil,.flt auQ]⟩,⟨33,1,.flts au2⟩],rfl,?_⟩;simp only[kC,kD,decide_true,Bool.and_true];exact h
 ·cases h
def tX:FnSh:=⟨[.agg [.rof,.int .i64,.int .i64,.rof],.rof,.flt],[]⟩
def o5 (ar6:cL):SPT:=λa_ c_=>match a_ with
 | [.fls s_0,.int s_1,.int s_2,.fls s_3,.fls h,.fl r]=>ar6 s_0 s_1 s_2 s_3 h r (λr0=>c_ (.tup [.val (.pointer none),vwi r0]) []) (λr0 r1 r8 r9 r10=>c_ (.tup [.ptr 0 0,vwi r0]) [⟨85,1,.cells [.bool r1,.rof s_0,vwi s_1,vwi s_2,.rof s_3,.rof h,.flt r,.flt r8,.slw 1,.nil,.flt r9]⟩,⟨33,1,.flts r10⟩])
 | _=>false
abbrev mq (ar6:cL):Fs:=av tX (o5 ar6)
def aq0:FnSh:=⟨[.ptr 0 0,.flt],[some (85,1,.cells [.bool,.rof,.int .i64,.int .i64,.rof,.rof,.flt,.flt,.slw 1,.slw 2,.flt]),some (33,1,.flts),some (33,1,.flts)]⟩
def aoJ (SQ2:sa):SPT:=λa_ c_=>match a_ with
 | [.fl x,.bool b,.fls b_1,.int b_2,.int b_3,.fls b_4,.fls b_5,.fl b_6,.fl b_7,.fl b_8,.fls b_9,.fls asW]=>SQ2 x b b_1 b_2 b_3 b_4 b_5 b_6 b_7 b_8 b_9 asW (λr1=>c_ (.flt x) [⟨85,1,.cells [.bool r1,.rof b_1,vwi b_2,vwi b_3,.rof b_4,.rof b_5,.flt b_6,.flt b_7,.slw 1,.slw 2,.flt b_8]⟩,⟨33,1,.flts b_9⟩,⟨33,1,.flts asW⟩])
 | _=>false
abbrev FQ2 (SQ2:sa):Fs:=av aq0 (aoJ SQ2)
theorem bZ (SQ2:sa):FrF 1 (FQ2 SQ2):=by
 refine tD λa k h=>?_
 unfold aoJ at h ⊢;split at h
 ·rename_i p_x p_b auD auu auv auM auN auO auP auQ au2 avC;refine⟨[⟨85,1,.cells [.bool p_b,.rof auD,vwi auu,vwi auv,.rof auM,.rof auN,.flt auO,.flt auP,.slw 1,.slw 2,.flt auQ]⟩,⟨33,1,.flts au2⟩,⟨33,1,.flts avC⟩],rfl,?_⟩;simp only[kC,kD,decide_true,Bool.and_true];exact h
 ·cases h
def aqZ:FnSh:=⟨[.ptr 0 0,.flt,.flt],[some (85,1,.cells [.bool,.rof,.int .i64,.int .i64,.rof,.rof,.flt,.flt,.slw 1,.slw 2,.flt]),some (33,1,.flts),some (33,1,.flts)]⟩
def aoI (SQ1:um):SPT:=λa_ c_=>match a_ with
 | [.fl a,.fl b,.bool b_1,.fls b_2,.int b_3,.int b_4,.fls b_5,.fls b_6,.fl b_7,.fl b_8,.fl b_9,.fls asW,.fls auh]=>SQ1 a b b_1 b_2 b_3 b_4 b_5 b_6 b_7 b_8 b_9 asW auh (λr0 r1=>c_ (.flt r0) [⟨85,1,.cells [.bool r1,.rof b_2,vwi b_3,vwi b_4,.rof b_5,.rof b_6,.flt b_7,.flt b_8,.slw 1,.slw 2,.flt b_9]⟩,⟨33,1,.flts asW⟩,⟨33,1,.flts auh⟩])
 | _=>false
abbrev FQ1 (SQ1:um):Fs:=av aqZ (aoI SQ1)
theorem cT (SQ1:um):FrF 1 (FQ1 SQ1):=by
 refine tD λa k h=>?_
 unfold aoI at h ⊢;split at h
 ·rename_i p_a p_b auD auu auv auM auN auO auP auQ au2 avC azh;refine⟨[⟨85,1,.cells [.bool auD,.rof auu,vwi auv,vwi auM,.rof auN,.rof auO,.flt auP,.flt auQ,.slw 1,.slw 2,.flt au2]⟩,⟨33,1,.flts avC⟩,⟨33,1,.flts azh⟩],rfl,?_⟩;simp only[kC,kD,decide_true,Bool.and_true];exact h
 ·cases h
def qY:FnSh:=⟨[.ptr 0 0],[some (85,1,.cells [.bool,.rof,.int .i64,.int .i64,.rof,.rof,.flt,.flt,.slw 1,.slw 2,.flt]),some (33,1,.flts),some (33,1,.flts)]⟩
def k9 (ar1:aN):SPT:=λa_ c_=>match a_ with
 | [.bool b,.fls b_1,.int b_2,.int b_3,.fls b_4,.fls b_5,.fl b_6,.fl b_7,.fl b_8,.fls b_9,.fls asW]=>ar1 b b_1 b_2 b_3 b_4 b_5 b_6 b_7 b_8 b_9 asW (c_ (.fn 1000043 [.ptr 0 0]) [⟨85,1,.cells [.bool b,.rof b_1,vwi b_2,vwi b_3,.rof b_4,.rof b_5,.flt b_6,.flt b_7,.slw 1,.slw 2,.flt b_8]⟩,⟨33,1,.flts b_9⟩,⟨33,1,.flts asW⟩])
 | _=>false
abbrev fa (ar1:aN):Fs:=av qY (k9 ar1)
def EX:FnSh:=⟨[.agg [.int .i64,.int .i64,.slw 0],.int .i64],[some (33,1,.flts)]⟩
def xL (asf:ga):SPT:=λa_ c_=>match a_ with
 | [.int m_0,.int m_1,.int i,.fls b]=>asf m_0 m_1 i b (λr0 r1=>c_ (.sl 0 r0 r1) [⟨33,1,.flts b⟩])
 | _=>false
abbrev l5 (asf:ga):Fs:=av EX (xL asf)
def zO:FnSh:=⟨[.agg [.int .i64,.int .i64,.rof],.int .i64],[]⟩
def vt (asm:li):SPT:=λa_ c_=>match a_ with
 | [.int m_0,.int m_1,.fls m_2,.int j]=>asm m_0 m_1 m_2 j (λr0=>c_ (.slw 0) [⟨33,1,.flts r0⟩])
 | _=>false
abbrev rZ (asm:li):Fs:=av zO (vt asm)
def aeB:FnSh:=⟨[.ptr 0 0,.sl 1,.slw 2],[some (85,1,.cells [.bool,.rof,.int .i64,.int .i64,.rof,.rof,.flt,.flt,.slw 3,.slw 4,.flt]),some (33,1,.flts),some (33,1,.flts),some (33,1,.flts),some (33,1,.flts)]⟩
def VX (au4:HE):SPT:=λa_ c_=>match a_ with
 | [.nat a_0,.nat a_1,.bool b,.fls b_1,.int b_2,.int b_3,.fls b_4,.fls b_5,.fl b_6,.fl b_7,.fl b_8,.fls b_9,.fls asW,.fls auh,.fls ava]=>au4 a_0 a_1 b b_1 b_2 b_3 b_4 b_5 b_6 b_7 b_8 b_9 asW auh ava (λr0 r1=>c_ (.flt r0) [⟨85,1,.cells [.bool r1,.rof b_1,vwi b_2,vwi b_3,.rof b_4,.rof b_5,.flt b_6,.flt b_7,.slw 3,.slw 4,.flt b_8]⟩,⟨33,1,.flts b_9⟩,⟨33,1,.flts asW⟩,⟨33,1,.flts auh⟩,⟨33,1,.flts ava⟩])
 | _=>false
abbrev YI (au4:HE):Fs:=av aeB (VX au4)
theorem ob (au4:HE):FrF 1 (YI au4):=by
 refine tD λa k h=>?_
 unfold VX at h ⊢;split at h
 ·rename_i aEo aEp p_b auD auu auv auM auN auO auP auQ au2 avC azh aAL;refine⟨[⟨85,1,.cells [.bool p_b,.rof auD,vwi auu,vwi auv,.rof auM,.rof auN,.flt auO,.flt auP,.slw 3,.slw 4,.flt auQ]⟩,⟨33,1,.flts au2⟩,⟨33,1,.flts avC⟩,⟨33,1,.flts azh⟩,⟨33,1,.flts aAL⟩],rfl,?_⟩;simp only[kC,kD,decide_true,Bool.and_true];exact h
 ·cases h
def kh:FnSh:=⟨[.ptr 0 0,.agg [.int .i64,.int .i64,.slw 1],.agg [.int .i64,.int .i64,.rof]],[some (85,1,.cells [.bool,.rof,.int .i64,.int .i64,.rof,.rof,.flt,.flt,.slw 2,.slw 3,.flt]),some (33,1,.flts),some (33,1,.flts),some (33,1,.flts)]⟩
def gT (ar9:bS):SPT:=λa_ c_=>match a_ with
 | [.int a_0,.int a_1,.int b_0,.int b_1,.fls b_2,.bool b,.fls b_3,.int b_4,.int b_5,.fls b_6,.fls b_7,.fl b_8,.fl b_9,.fl asW,.fls auh,.fls ava,.fls avt]=>ar9 a_0 a_1 b_0 b_1 b_2 b b_3 b_4 b_5 b_6 b_7 b_8 b_9 asW auh ava avt (λr2 r14=>c_ (.agg [vwi a_0,vwi b_1,.slw 4]) [⟨85,1,.cells [.bool r2,.rof b_3,vwi b_4,vwi b_5,.rof b_6,.rof b_7,.flt b_8,.flt b_9,.slw 2,.slw 3,.flt asW]⟩,⟨33,1,.flts auh⟩,⟨33,1,.flts ava⟩,⟨33,1,.flts avt⟩,⟨33,1,.flts r14⟩])
 | _=>false
abbrev eJ (ar9:bS):Fs:=av kh (gT ar9)
def Vv:FnSh:=⟨[.ptr 0 0,.sl 1,.sl 2],[some (85,1,.cells [.bool,.rof,.int .i64,.int .i64,.rof,.rof,.flt,.flt,.slw 3,.slw 4,.flt]),some (33,1,.flts),some (33,1,.flts),some (33,1,.flts),some (33,1,.flts)]⟩
def MB (awX:D6):SPT:=λa_ c_=>match a_ with
 | [.nat a_0,.nat a_1,.nat b_0,.nat b_1,.bool b,.fls b_2,.int b_3,.int b_4,.fls b_5,.fls b_6,.fl b_7,.fl b_8,.fl b_9,.fls asW,.fls auh,.fls ava,.fls avt]=>awX a_0 a_1 b_0 b_1 b b_2 b_3 b_4 b_5 b_6 b_7 b_8 b_9 asW auh ava avt (λr0 r1=>c_ (.flt r0) [⟨85,1,.cells [.bool r1,.rof b_2,vwi b_3,vwi b_4,.rof b_5,.rof b_6,.flt b_7,.flt b_8,.slw 3,.slw 4,.flt b_9]⟩,⟨33,1,.flts asW⟩,⟨33,1,.flts auh⟩,⟨33,1,.flts ava⟩,⟨33,1,.flts avt⟩])
 | _=>false
abbrev SV (awX:D6):Fs:=av Vv (MB awX)
theorem oa (awX:D6):FrF 1 (SV awX):=by
 refine tD λa k h=>?_
 unfold MB at h ⊢;split at h
 ·rename_i aEo aEp aFe auD p_b auu auv auM auN auO auP auQ au2 avC azh aAL aCE;refine⟨[⟨85,1,.cells [.bool p_b,.rof auu,vwi auv,vwi auM,.rof auN,.rof auO,.flt auP,.flt auQ,.slw 3,.slw 4,.flt au2]⟩,⟨33,1,.flts avC⟩,⟨33,1,.flts azh⟩,⟨33,1,.flts aAL⟩,⟨33,1,.flts aCE⟩],rfl,?_⟩;simp only[kC,kD,decide_true,Bool.and_true];exact h
 ·cases h
def ki:FnSh:=⟨[.int .i64,.int .i64,.ptr 0 0,.ptr 1 0,.ptr 2 0],[some (79,1,.cells [.ptr 3 0]),some (28,1,.cells [.int .i64,.int .i64,.slw 4]),some (28,1,.cells [.int .i64,.int .i64,.slw 5]),some (85,1,.cells [.bool,.rof,.int .i64,.int .i64,.rof,.rof,.flt,.flt,.slw 6,.slw 7,.flt]),some (33,1,.flts),some (33,1,.flts),some (33,1,.flts),some (33,1,.flts)]⟩
def fI (ar3:aM):SPT:=λa_ c_=>match a_ with
 | [.int i,.int j,.int b,.int b_1,.int b_2,.int b_3,.bool b_4,.fls b_5,.int b_6,.int b_7,.fls b_8,.fls b_9,.fl asW,.fl auh,.fl ava,.fls avt,.fls aw1,.fls awV,.fls avI]=>ar3 i j b b_1 b_2 b_3 b_4 b_5 b_6 b_7 b_8 b_9 asW auh ava avt aw1 awV avI (λr0 r5=>c_ (.flt r0) [⟨79,1,.cells [.ptr 3 0]⟩,⟨28,1,.cells [vwi b,vwi b_1,.slw 4]⟩,⟨28,1,.cells [vwi b_2,vwi b_3,.slw 5]⟩,⟨85,1,.cells [.bool r5,.rof b_5,vwi b_6,vwi b_7,.rof b_8,.rof b_9,.flt asW,.flt auh,.slw 6,.slw 7,.flt ava]⟩,⟨33,1,.flts avt⟩,⟨33,1,.flts aw1⟩,⟨33,1,.flts awV⟩,⟨33,1,.flts avI⟩])
 | _=>false
abbrev bG (ar3:aM):Fs:=av ki (fI ar3)
def iS:FnSh:=⟨[.int .i64,.fn 80 [.ptr 0 0,.ptr 1 0,.ptr 2 0]],[some (79,1,.cells [.ptr 3 0]),some (28,1,.cells [.int .i64,.int .i64,.slw 4]),some (28,1,.cells [.int .i64,.int .i64,.slw 5]),some (85,1,.cells [.bool,.rof,.int .i64,.int .i64,.rof,.rof,.flt,.flt,.slw 6,.slw 7,.flt]),some (33,1,.flts),some (33,1,.flts),some (33,1,.flts),some (33,1,.flts)]⟩
def fH (ar5:bu):SPT:=λa_ c_=>match a_ with
 | [.int n,.int b,.int b_1,.int b_2,.int b_3,.bool b_4,.fls b_5,.int b_6,.int b_7,.fls b_8,.fls b_9,.fl asW,.fl auh,.fl ava,.fls avt,.fls aw1,.fls awV,.fls avI]=>ar5 n b b_1 b_2 b_3 b_4 b_5 b_6 b_7 b_8 b_9 asW auh ava avt aw1 awV avI (λr6 r19=>c_ (.agg [vwi n,vwi n,.slw 8]) [⟨79,1,.cells [.ptr 3 0]⟩,⟨28,1,.cells [vwi b,vwi b_1,.slw 4]⟩,⟨28,1,.cells [vwi b_2,vwi b_3,.slw 5]⟩,⟨85,1,.cells [.bool r6,.rof b_5,vwi b_6,vwi b_7,.rof b_8,.rof b_9,.flt asW,.flt auh,.slw 6,.slw 7,.flt ava]⟩,⟨33,1,.flts avt⟩,⟨33,1,.flts aw1⟩,⟨33,1,.flts awV⟩,⟨33,1,.flts avI⟩,⟨33,1,.flts r19⟩])
 | _=>false
abbrev dy (ar5:bu):Fs:=av iS (fH ar5)
def ju:FnSh:=⟨[.ptr 0 0],[some (85,1,.cells [.bool,.rof,.int .i64,.int .i64,.rof,.rof,.flt,.flt,.slw 1,.slw 2,.flt]),some (33,1,.flts),some (33,1,.flts)]⟩
def ge (arX:aG):SPT:=λa_ c_=>match a_ with
 | [.bool b,.fls b_1,.int b_2,.int b_3,.fls b_4,.fls b_5,.fl b_6,.fl b_7,.fl b_8,.fls b_9,.fls asW]=>arX b b_1 b_2 b_3 b_4 b_5 b_6 b_7 b_8 b_9 asW (λr0 r1 r2 r13=>c_ (.agg [vwi r0,vwi r1,.slw 3]) [⟨85,1,.cells [.bool r2,.rof b_1,vwi b_2,vwi b_3,.rof b_4,.rof b_5,.flt b_6,.flt b_7,.slw 1,.slw 2,.flt b_8]⟩,⟨33,1,.flts b_9⟩,⟨33,1,.flts asW⟩,⟨33,1,.flts r13⟩])
 | _=>false
abbrev dT (arX:aG):Fs:=av ju (ge arX)
def ajT:FnSh:=⟨[.ptr 0 0],[some (85,1,.cells [.bool,.rof,.int .i64,.int .i64,.rof,.rof,.flt,.flt,.slw 1,.slw 2,.flt]),some (33,1,.flts),some (33,1,.flts)]⟩
def Sk (awY:D8):SPT:=λa_ c_=>match a_ with
 | [.bool b,.fls b_1,.int b_2,.int b_3,.fls b_4,.fls b_5,.fl b_6,.fl b_7,.fl b_8,.fls b_9,.fls asW]=>awY b b_1 b_2 b_3 b_4 b_5 b_6 b_7 b_8 b_9 asW (c_ (.bool b) [⟨85,1,.cells [.bool b,.rof b_1,vwi b_2,vwi b_3,.rof b_4,.rof b_5,.flt b_6,.flt b_7,.slw 1,.slw 2,.flt b_8]⟩,⟨33,1,.flts b_9⟩,⟨33,1,.flts asW⟩])
 | _=>false
abbrev Tf (awY:D8):Fs:=av ajT (Sk awY)
theorem pW (awY:D8):FrF 2 (Tf awY):=by
 refine tD λa k h=>?_
 unfold Sk at h ⊢;split at h
 ·rename_i p_b auD auu auv auM auN auO auP auQ au2 avC;refine⟨[⟨85,1,.cells [.bool p_b,.rof auD,vwi auu,vwi auv,.rof auM,.rof auN,.flt auO,.flt auP,.slw 1,.slw 2,.flt auQ]⟩,⟨33,1,.flts au2⟩,⟨33,1,.flts avC⟩],rfl,?_⟩;simp only[kC,kD,decide_true,Bool.and_true];exact h
 ·cases h
def pC:FnSh:=⟨[.ptr 0 0,.slw 1,.agg [.int .i64,.int .i64,.slw 2]],[some (85,1,.cells [.bool,.rof,.int .i64,.int .i64,.rof,.rof,.flt,.flt,.slw 3,.slw 4,.flt]),some (33,1,.flts),some (33,1,.flts),some (33,1,.flts),some (33,1,.flts)]⟩
def kl (arZ:aI):SPT:=λa_ c_=>match a_ with
 | [.int p_0,.int p_1,.bool b,.fls b_1,.int b_2,.int b_3,.fls b_4,.fls b_5,.fl b_6,.fl b_7,.fl b_8,.fls b_9,.fls asW,.fls auh,.fls ava]=>arZ p_0 p_1 b b_1 b_2 b_3 b_4 b_5 b_6 b_7 b_8 b_9 asW auh ava (λr0 r1 r2=>c_ (.tup [.agg [.nil,vwi r0,vwi r1,.nil],vwi r2]) [⟨85,1,.cells [.bool b,.rof b_1,vwi b_2,vwi b_3,.rof b_4,.rof b_5,.flt b_6,.flt b_7,.slw 3,.slw 4,.flt b_8]⟩,⟨33,1,.flts b_9⟩,⟨33,1,.flts asW⟩,⟨33,1,.flts auh⟩,⟨33,1,.flts ava⟩]) (λr2=>c_ (.tup [.agg [.slw 1,vwi p_0,vwi p_1,.slw 2],vwi r2]) [⟨85,1,.cells [.bool b,.rof b_1,vwi b_2,vwi b_3,.rof b_4,.rof b_5,.flt b_6,.flt b_7,.slw 3,.slw 4,.flt b_8]⟩,⟨33,1,.flts b_9⟩,⟨33,1,.flts asW⟩,⟨33,1,.flts auh⟩,⟨33,1,.flts ava⟩])
 | _=>false
abbrev d9 (arZ:aI):Fs:=av pC (kl arZ)
def ip:FnSh:=⟨[.agg [.rof,.int .i64,.int .i64,.rof],.rof,.flt,.flt,.fn 42 []],[]⟩
def nR (atr:iN):SPT:=λa_ c_=>match a_ with
 | [.fls s_0,.int s_1,.int s_2,.fls s_3,.fls h,.fl r,.fl z]=>atr s_0 s_1 s_2 s_3 h r z (λr0 r1 r2 r3 r4 r5=>c_ (.tup [.agg [.nil,vwi r0,vwi r1,.nil],.agg [.flt r2,.flt r3,.flt r4,.nil],vwi r5]) []) (λr0 r1 r2 r3 r4 r5 r6=>c_ (.tup [.agg [.nil,vwi r0,vwi r1,.nil],.agg [.flt r2,.flt r3,.flt r4,.slw 0],vwi r5]) [⟨33,1,.flts r6⟩]) (λr0 r1 r2 r3 r4 r5 r6 r7 r8=>c_ (.tup [.agg [.slw 0,vwi r0,vwi r1,.slw 1],.agg [.flt r2,.flt r3,.flt r4,.slw 2],vwi r5]) [⟨33,1,.flts r6⟩,⟨33,1,.flts r7⟩,⟨33,1,.flts r8⟩])
 | _=>false
abbrev ot (atr:iN):Fs:=av ip (nR atr)
def DT:FnSh:=⟨[.agg [.rof,.int .i64,.int .i64,.rof],.rof,.flt,.flt],[]⟩
def wk (atv:iK):SPT:=λa_ c_=>match a_ with
 | [.fls s_0,.int s_1,.int s_2,.fls s_3,.fls h,.fl r,.fl z]=>atv s_0 s_1 s_2 s_3 h r z (λr0 r1 r2 r3 r4 r5=>c_ (.tup [.agg [.nil,vwi r0,vwi r1,.nil],.agg [.flt r2,.flt r3,.flt r4,.nil],vwi r5]) []) (λr0 r1 r2 r3 r4 r5 r6=>c_ (.tup [.agg [.nil,vwi r0,vwi r1,.nil],.agg [.flt r2,.flt r3,.flt r4,.slw 0],vwi r5]) [⟨33,1,.flts r6⟩]) (λr0 r1 r2 r3 r4 r5 r6 r7 r8=>c_ (.tup [.agg [.slw 0,vwi r0,vwi r1,.slw 1],.agg [.flt r2,.flt r3,.flt r4,.slw 2],vwi r5]) [⟨33,1,.flts r6⟩,⟨33,1,.flts r7⟩,⟨33,1,.flts r8⟩])
 | _=>false
abbrev ra (atv:iK):Fs:=av DT (wk atv)
def aqY:FnSh:=⟨[],[]⟩
def aq5 (SQ0:P4):SPT:=λa_ c_=>match a_ with
 | []=>SQ0 (λr0=>c_ (.bool r0) [])
 | _=>false
abbrev FQ0 (SQ0:P4):Fs:=av aqY (aq5 SQ0)
def Gy:FnSh:=⟨[.roi .u64,.int .i64,.int .i64,.roi .u64],[]⟩
theorem aba (w:World) (v:Value):Calls Tryz.prog 116 #[.nilIface,v] w λe w'=>e=.returned v/\w'=w:=
 ahB (P:=Tryz.prog) (fc:=116) (fn:=Tryz.f116) (by kernel_rfl) (by kernel_rfl) (by kernel_rfl) rfl rfl rfl rfl rfl rfl rfl rfl rfl rfl rfl rfl rfl rfl rfl rfl rfl rfl rfl (λ_=>rfl) (λ_=>by kernel_rfl) w v
theorem ao3:Gz Tryz.prog 115:=
 aa4 (P:=Tryz.prog) (g:=115) (fc:=116) (fg:=Tryz.f115) (ff:=Tryz.f116) (by kernel_rfl) (by kernel_rfl) (by kernel_rfl) (by kernel_rfl) rfl (by kernel_rfl) (by kernel_rfl) (by kernel_rfl) (by kernel_rfl) (by kernel_rfl) rfl rfl rfl rfl rfl rfl rfl rfl rfl rfl rfl (by kernel_rfl) (by kernel_rfl) aba
theorem hD_:∀ g,g<1000000->aB (2000000+g)=true->Gz Tryz.prog g:=by
 intro g hg h;have e:g=115:=by unfold aB at h; simp at h; omega
 rcases e with rfl
 exact ao3
end Go.Proofs.YteifemaagdeomaaGreatDoor
end
