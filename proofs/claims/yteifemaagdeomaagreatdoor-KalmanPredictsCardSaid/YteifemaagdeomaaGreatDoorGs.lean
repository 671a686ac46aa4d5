/- The program's functions and their ties. Conditions: none. -/
import Derived.Test.YteifemaagdeomaaGreatDoorGp
import Derived.Test.YteifemaagdeomaaGreatDoorMachT
import Derived.Test.YteifemaagdeomaaGreatDoorProg
set_option linter.unusedSimpArgs false
set_option linter.unusedVariables false
section
namespace Go.Proofs.YteifemaagdeomaaGreatDoor
open Go Go.Mach Go.Proofs
set_option maxRecDepth 50000
abbrev KV:=V->List Blk->Bool
abbrev SPT:=List Atom->KV->Bool
noncomputable abbrev Pg:Program:=Tryz.prog
def vqs:Nat → List V → List V
  | 0,t=>t
  | n+1,t=>.any::vqs n t
abbrev vwi (z:Int):V:=.int .i64 z
abbrev vwu (z:Int):V:=.int .u64 z
abbrev vwv (z:Int):V:=.int .u32 z
abbrev vwr (l:LI):V:=.roi .u64 l
abbrev vws (l:LI):V:=.roi .u32 l
theorem aG {p:Nat → Prop} (h:p 0):∀ i,i<1 → p i
 | 0,_=>h
 | _+1,g=>by omega
theorem gJ {p:Nat → Prop} (h:p 0) (h1:p 1):∀ i,i<2 → p i
 | 0,_=>h
 | 1,_=>h1
 | _+2,g=>by omega
def sqs:Nat → List Sh → List Sh
 | 0,t=>t
 | n+1,t=>.any::sqs n t
def av:Nat->Bool:=λg=>g==150||g==140||g==53||g==207||g==185||g==225||g==236||g==74||g==23||g==34||g==35||g==56||g==51||g==50||g==65||g==61||g==60||g==59||g==111||g==126||g==108||g==110||g==123||g==125||g==159||g==133||g==195||g==162||g==134||g==118||g==191||g==232||g==226||g==145||g==182||g==183||g==1000238||g==1000204||g==1000203||g==2000115||g==3000059||g==3000079||g==3000064||g==4000129||g==4000077
theorem gfV (N:Nat) {l:List (Nat × Fs)} {f:Nat} {sh:FnSh} {S:List Atom → (V → List Blk → Bool) → Bool} (ho:tI Pg (ak l)) (base:Nat) (h:∀ a k,S a k=true → ∃ H,sh.heap a=H.map some ∧ H.length=base ∧ ov ⟨Pg,ak l,av,N⟩ (λ_=>none) f (sh.args a) H k=true) (h0:(l.all λp=>mdR av p.1==0)=true:=by kernel_rfl) (hn:(lps Pg f).length=0:=by kernel_rfl):ab Pg f (aw sh S):=
 jN (cx:=⟨Pg,ak l,av,N⟩) (gT ho h0) sh S (λ_=>none) 0 base hn (λi hi=>by omega) h
theorem ggV (N:Nat) {l:List (Nat × Fs)} {f:Nat} {sh:FnSh} {S:List Atom → (V → List Blk → Bool) → Bool} (ho:OS ⟨Pg,ak l,av,N⟩) (base:Nat) (h:∀ a k,S a k=true → ∃ H,sh.heap a=H.map some ∧ H.length=base ∧ ov ⟨Pg,ak l,av,N⟩ (λ_=>none) f (sh.args a) H k=true) (hn:(lps Pg f).length=0:=by kernel_rfl):ab Pg f (aw sh S):=
 jN (cx:=⟨Pg,ak l,av,N⟩) ho sh S (λ_=>none) 0 base hn (λi hi=>by omega) h
theorem gfZ (N:Nat) {l:List (Nat × Fs)} {f:Nat} {sh:FnSh} {S:List Atom → (V → List Blk → Bool) → Bool} (md:Bool) (ho:tI Pg (ak l)) (base:Nat) (h:∀ a k,S a k=true → ∃ H,sh.heap a=H.map some ∧ H.length=base ∧ pM md ⟨Pg,ak l,av,N⟩ (λ_=>none) f (sh.args a) H k=true) (h0:(l.all λp=>mdR av p.1==0)=true:=by kernel_rfl) (hn:(lps Pg f).length=0:=by kernel_rfl):ab Pg f (aw sh S):=
 l3 (md:=md) (cx:=⟨Pg,ak l,av,N⟩) (gT ho h0) sh S (λ_=>none) 0 base hn (λi hi=>by omega) h
theorem ggZ (N:Nat) {l:List (Nat × Fs)} {f:Nat} {sh:FnSh} {S:List Atom → (V → List Blk → Bool) → Bool} (md:Bool) (ho:OS ⟨Pg,ak l,av,N⟩) (base:Nat) (h:∀ a k,S a k=true → ∃ H,sh.heap a=H.map some ∧ H.length=base ∧ pM md ⟨Pg,ak l,av,N⟩ (λ_=>none) f (sh.args a) H k=true) (hn:(lps Pg f).length=0:=by kernel_rfl):ab Pg f (aw sh S):=
 l3 (md:=md) (cx:=⟨Pg,ak l,av,N⟩) ho sh S (λ_=>none) 0 base hn (λi hi=>by omega) h
theorem glV (N:Nat) {l:List (Nat × Fs)} {f:Nat} {sh:FnSh} {S:List Atom → (V → List Blk → Bool) → Bool} (an:Nat → Option Ann) (ho:tI Pg (ak l)) (n base:Nat) (hk:∀ i,i<n → aC ⟨Pg,ak l,av,N⟩ base an (lp Pg f i)) (h:∀ a k,S a k=true → ∃ H,sh.heap a=H.map some ∧ H.length=base ∧ ov ⟨Pg,ak l,av,N⟩ an f (sh.args a) H k=true) (h0:(l.all λp=>mdR av p.1==0)=true:=by kernel_rfl) (hn:(lps Pg f).length=n:=by kernel_rfl):ab Pg f (aw sh S):=
 jN (cx:=⟨Pg,ak l,av,N⟩) (gT ho h0) sh S an n base hn hk h
theorem glZ (N:Nat) {l:List (Nat × Fs)} {f:Nat} {sh:FnSh} {S:List Atom → (V → List Blk → Bool) → Bool} (md:Bool) (an:Nat → Option Ann) (ho:tI Pg (ak l)) (n base:Nat) (hk:∀ i,i<n → aC ⟨Pg,ak l,av,N⟩ base an (lp Pg f i)) (h:∀ a k,S a k=true → ∃ H,sh.heap a=H.map some ∧ H.length=base ∧ pM md ⟨Pg,ak l,av,N⟩ an f (sh.args a) H k=true) (h0:(l.all λp=>mdR av p.1==0)=true:=by kernel_rfl) (hn:(lps Pg f).length=n:=by kernel_rfl):ab Pg f (aw sh S):=
 l3 (md:=md) (cx:=⟨Pg,ak l,av,N⟩) (gT ho h0) sh S an n base hn hk h
def akR:FnSh:=⟨[.fb],[]⟩
def agd (aw0:xm):SPT
 | [.nat a0],c_=>aw0 a0 (λr0=>c_ (vwu r0) [])
 | _,_=>false
abbrev Ud (aw0:xm):Fs:=aw akR (agd aw0)
def X5:FnSh:=⟨[.litI .i64 0],[]⟩
def Qy (av3:oq):SPT
 | [],c_=>av3 (λr0 r1 r2=>c_ (.agg [vwu r0,vwi r1,vwi r2]) [])
 | _,_=>false
abbrev C_ (av3:oq):Fs:=aw X5 (Qy av3)
def ala:FnSh:=⟨[.agg [.int .u64,.int .i64,.int .i64]],[]⟩
def agv (ax2:Cc):SPT
 | [.int f_0,.int f_1,.int f_2],c_=>ax2 f_0 f_1 f_2 (λr0=>c_ (vwu r0) [])
 | _,_=>false
abbrev Um (ax2:Cc):Fs:=aw ala (agv ax2)
def aky:FnSh:=⟨[.agg [.int .u64,.int .i64,.int .i64]],[]⟩
def afU (ax0:Cc):SPT
 | [.int f_0,.int f_1,.int f_2],c_=>ax0 f_0 f_1 f_2 (λr0=>c_ (vwu r0) [])
 | _,_=>false
abbrev T4 (ax0:Cc):Fs:=aw aky (afU ax0)
def akx:FnSh:=⟨[.int .u64,.agg [.int .u64,.int .i64,.int .i64]],[]⟩
def afT (azN:HA):SPT
 | [.int b,.int f_0,.int f_1,.int f_2],c_=>azN b f_0 f_1 f_2 (λr0=>c_ (.bool r0) [])
 | _,_=>false
abbrev YG (azN:HA):Fs:=aw akx (afT azN)
def akh:FnSh:=⟨[.agg [.int .u64,.int .i64,.int .i64]],[]⟩
def afE (avD:Cc):SPT
 | [.int f_0,.int f_1,.int f_2],c_=>avD f_0 f_1 f_2 (λr0=>c_ (vwu r0) [])
 | _,_=>false
abbrev KQ (avD:Cc):Fs:=aw akh (afE avD)
def alh:FnSh:=⟨[.agg [.int .u64,.int .i64,.int .i64]],[]⟩
def agC (az9:Cc):SPT
 | [.int f_0,.int f_1,.int f_2],c_=>az9 f_0 f_1 f_2 (λr0=>c_ (vwu r0) [])
 | _,_=>false
abbrev Y4 (az9:Cc):Fs:=aw alh (agC az9)
def ajW:FnSh:=⟨[.int .u64,.agg [.int .u64,.int .i64,.int .i64]],[]⟩
def afe (axF:BP):SPT
 | [.int b,.int f_0,.int f_1,.int f_2],c_=>axF b f_0 f_1 f_2 (λr0=>c_ (vwu r0) [])
 | _,_=>false
abbrev TM (axF:BP):Fs:=aw ajW (afe axF)
def aqj:FnSh:=⟨[.int .u64,.agg [.int .u64,.int .i64,.int .i64]],[]⟩
def amT (awJ:Dk):SPT
 | [.int b,.int f_0,.int f_1,.int f_2],c_=>awJ b f_0 f_1 f_2 (λr0 r1 r2=>c_ (.tup [.bool r0,vwi r1,vwu r2]) [])
 | _,_=>false
abbrev Zc (awJ:Dk):Fs:=aw aqj (amT awJ)
def aqi:FnSh:=⟨[.int .u64,.agg [.int .u64,.int .i64,.int .i64]],[]⟩
def amS (awI:BP):SPT
 | [.int b,.int f_0,.int f_1,.int f_2],c_=>awI b f_0 f_1 f_2 (λr0=>c_ (vwi r0) [])
 | _,_=>false
abbrev Zb (awI:BP):Fs:=aw aqi (amS awI)
def ale:FnSh:=⟨[.fb],[]⟩
def agz (aCl:xm):SPT
 | [.nat x],c_=>aCl x (λr0=>c_ (vwi r0) [])
 | _,_=>false
abbrev Un (aCl:xm):Fs:=aw ale (agz aCl)
def alf:FnSh:=⟨[.fb,.fb],[]⟩
def agA (aCm:QW):SPT
 | [.nat a,.nat b],c_=>aCm a b (λr0=>c_ (.bool r0) [])
 | _,_=>false
abbrev Uo (aCm:QW):Fs:=aw alf (agA aCm)
def ak9:FnSh:=⟨[.int .u64],[]⟩
def agt (awE:zc):SPT
 | [.int a0],c_=>awE a0 (λr0=>c_ (.flt r0) [])
 | _,_=>false
abbrev NX (awE:zc):Fs:=aw ak9 (agt awE)
def alk:FnSh:=⟨[.fb],[]⟩
def agF (aCn:QX):SPT
 | [.nat x],c_=>aCn x (λr0=>c_ (.flt r0) [])
 | _,_=>false
abbrev Up (aCn:QX):Fs:=aw alk (agF aCn)
def ajN:FnSh:=⟨[.roi .u64],[]⟩
def ae6 (awx:xi):SPT
 | [.ints l],c_=>awx l (λr0=>c_ (.slw 0) [⟨33,1,.flts r0⟩])
 | _,_=>false
abbrev NN (awx:xi):Fs:=aw ajN (ae6 awx)
def asW:FnSh:=⟨[.roi .u64,.int .i64,.int .i64,.roi .u64],[]⟩
def as2 (SQ4:QZ):SPT
 | [.ints x,.int rows,.int cols,.ints p],c_=>SQ4 x rows cols p (λr2 r3=>c_ (.agg [.slw 0,vwi rows,vwi cols,.slw 1]) [⟨33,1,.flts r2⟩,⟨33,1,.flts r3⟩])
 | _,_=>false
abbrev FQ4 (SQ4:QZ):Fs:=aw asW (as2 SQ4)
def akP:FnSh:=⟨[.int .i64],[]⟩
def agb (ayT:HK):SPT
 | [.int n],c_=>ayT n (λr0=>c_ (.bool r0) [])
 | _,_=>false
abbrev YO (ayT:HK):Fs:=aw akP (agb ayT)
def ak2:FnSh:=⟨[.flt],[]⟩
def TB (aw1:EM):SPT
 | [.fl x],c_=>aw1 x (λr0=>c_ (vwi r0) [])
 | _,_=>false
abbrev NW (aw1:EM):Fs:=aw ak2 (TB aw1)
def apT:FnSh:=⟨[.rof],[]⟩
def amq (ay_:H_):SPT
 | [.fls l],c_=>ay_ l (λr0=>c_ (.bool r0) [])
 | _,_=>false
abbrev WD (ay_:H_):Fs:=aw apT (amq ay_)
def apU:FnSh:=⟨[.agg [.int .i64,.int .i64,.rof]],[]⟩
def amr (avF:wh):SPT
 | [.int m_0,.int m_1,.fls m_2],c_=>avF m_0 m_1 m_2 (λr0=>c_ (vwi r0) [])
 | _,_=>false
abbrev N0 (avF:wh):Fs:=aw apU (amr avF)
def aj2:FnSh:=⟨[.agg [.int .i64,.int .i64,.rof],.int .i64,.int .i64],[]⟩
def afn (awa:EC):SPT
 | [.int m_0,.int m_1,.fls m_2,.int i,.int j],c_=>awa m_0 m_1 m_2 i j (λr0=>c_ (.flt r0) [])
 | _,_=>false
abbrev TP (awa:EC):Fs:=aw aj2 (afn awa)
def ak0:FnSh:=⟨[.flt,.flt],[]⟩
def Tz (awh:EL):SPT
 | [.fl a,.fl b],c_=>awh a b (λr0=>c_ (.bool r0) [])
 | _,_=>false
abbrev Uj (awh:EL):Fs:=aw ak0 (Tz awh)
def aqc:FnSh:=⟨[.agg [.int .i64,.int .i64,.rof]],[]⟩
def amM (axe:FB):SPT
 | [.int m_0,.int m_1,.fls m_2],c_=>axe m_0 m_1 m_2 (λr0=>c_ (.bool r0) [])
 | _,_=>false
abbrev Y_ (axe:FB):Fs:=aw aqc (amM axe)
def Bg:FnSh:=⟨[.bool,.int .i64],[]⟩
def uD (at8:aR):SPT
 | [.bool is,.int e],c_=>at8 is e (c_ (.tup []) [])
 | _,_=>false
abbrev cY (at8:aR):Fs:=aw Bg (uD at8)
def ak_:FnSh:=⟨[.flt],[]⟩
def agu (aw2:EM):SPT
 | [.fl a0],c_=>aw2 a0 (λr0=>c_ (vwu r0) [])
 | _,_=>false
abbrev Ul (aw2:EM):Fs:=aw ak_ (agu aw2)
def Nd:FnSh:=⟨[.int .u64],[]⟩
def agL (aw4:Ib):SPT
 | [.int x],c_=>aw4 x (λr0=>c_ (vwi r0) [])
 | _,_=>false
abbrev ag5 (aw4:Ib):Fs:=aw Nd (agL aw4)
def Ef:FnSh:=⟨[.int .u64,.agg [.int .u64,.int .i64,.int .i64]],[]⟩
def Tq (azC:Hp):SPT
 | [.int b,.int f_0,.int f_1,.int f_2],c_=>azC b f_0 f_1 f_2 (λr0 r1 r2 r3=>c_ (.tup [.agg [.bool r0,vwu r1,vwi r2],vwi r3]) [])
 | _,_=>false
abbrev Yv (azC:Hp):Fs:=aw Ef (Tq azC)
def akU:FnSh:=⟨[.flt],[]⟩
def agf (awb:B9):SPT
 | [.fl x],c_=>awb x (λr0 r1 r2 r3=>c_ (.tup [.agg [.bool r0,vwu r1,vwi r2],vwi r3]) [])
 | _,_=>false
abbrev Ug (awb:B9):Fs:=aw akU (agf awb)
def asY:FnSh:=⟨[.slw 0],[some (23,1,.ints .u64)]⟩
def as5 (SQ9:lP):SPT
 | [.ints b],c_=>SQ9 b (λr0=>c_ (.sl 0 0 r0) [⟨23,1,.ints .u64 b⟩])
 | _,_=>false
abbrev FQ9 (SQ9:lP):Fs:=aw asY (as5 SQ9)
def aqb:FnSh:=⟨[.int .u64],[]⟩
def amL (auJ:sj):SPT
 | [.int n],c_=>auJ n (λr0=>c_ (vwr r0) [])
 | _,_=>false
abbrev N1 (auJ:sj):Fs:=aw aqb (amL auJ)
def apW:FnSh:=⟨[.ptr 0 0,.bool,.roi .u64],[some (204,1,.cells [.bool,.nil])]⟩
def amt (aw3:wi):SPT
 | [.bool neg,.ints abs,.bool b],c_=>aw3 neg abs b (λr0=>c_ (.ptr 0 0) [⟨204,1,.cells [.bool r0,vwr abs]⟩])
 | _,_=>false
abbrev QO (aw3:wi):Fs:=aw apW (amt aw3)
def ap_:FnSh:=⟨[.ptr 0 0,.int .u64],[some (204,1,.cells [.bool,.nil])]⟩
def amJ (awX:Ie):SPT
 | [.int n,.bool b],c_=>awX n b (λr0 r1=>c_ (.ptr 0 0) [⟨204,1,.cells [.bool r0,vwr r1]⟩])
 | _,_=>false
abbrev ag_ (awX:Ie):Fs:=aw ap_ (amJ awX)
def apY:FnSh:=⟨[.roi .u64],[]⟩
def amw (auR:mY):SPT
 | [.ints x],c_=>auR x (λr0=>c_ (vwr r0) [])
 | _,_=>false
abbrev G4 (auR:mY):Fs:=aw apY (amw auR)
def aqn:FnSh:=⟨[.ptr 0 0,.bool,.roi .u64],[some (204,1,.cells [.bool,.roi .u64])]⟩
def amY (ax3:Dl):SPT
 | [.bool neg,.ints abs,.bool b,.ints b_1],c_=>ax3 neg abs b b_1 (λr0=>c_ (.ptr 0 0) [⟨204,1,.cells [.bool r0,vwr abs]⟩])
 | _,_=>false
abbrev Zd (ax3:Dl):Fs:=aw aqn (amY ax3)
def aqv:FnSh:=⟨[.ptr 0 0,.ptr 0 0],[some (204,1,.cells [.bool,.roi .u64])]⟩
def am8 (awY:Im):SPT
 | [.bool b,.ints b_1],c_=>awY b b_1 (λr0 r1=>c_ (.ptr 0 0) [⟨204,1,.cells [.bool r0,vwr r1]⟩])
 | _,_=>false
abbrev ahk (awY:Im):Fs:=aw aqv (am8 awY)
def ajZ:FnSh:=⟨[.ptr 0 0,.int .i64],[some (204,1,.cells [.bool,.nil])]⟩
def afk (azt:Ie):SPT
 | [.int n,.bool b],c_=>azt n b (λr0 r1=>c_ (.ptr 0 0) [⟨204,1,.cells [.bool r0,vwr r1]⟩])
 | _,_=>false
abbrev Ym (azt:Ie):Fs:=aw ajZ (afk azt)
def ako:FnSh:=⟨[.int .i64],[]⟩
def afL (avN:xj):SPT
 | [.int n],c_=>avN n (λr0 r1=>c_ (.ptr 0 0) [⟨204,1,.cells [.bool r0,vwr r1]⟩])
 | _,_=>false
abbrev NR (avN:xj):Fs:=aw ako (afL avN)
def alb:FnSh:=⟨[.roi .u64,.int .u64],[]⟩
def agw (az5:HY):SPT
 | [.ints x,.int n],c_=>az5 x n (λr0=>c_ (vwr r0) [])
 | _,_=>false
abbrev Y0 (az5:HY):Fs:=aw alb (agw az5)
def aqs:FnSh:=⟨[.ptr 0 0,.ptr 1 0,.int .u64],[some (204,1,.cells [.bool,.nil]),some (204,1,.cells [.bool,.roi .u64])]⟩
def am4 (aw8:Ii):SPT
 | [.int n,.bool b,.bool b_1,.ints b_2],c_=>aw8 n b b_1 b_2 (λr0 r1=>c_ (.ptr 0 0) [⟨204,1,.cells [.bool r0,vwr r1]⟩,⟨204,1,.cells [.bool b_1,vwr b_2]⟩])
 | _,_=>false
abbrev ahg (aw8:Ii):Fs:=aw aqs (am4 aw8)
def apM:FnSh:=⟨[.roi .u64,.roi .u64],[]⟩
def amk (auz:pK):SPT
 | [.ints x,.ints y],c_=>auz x y (λr0=>c_ (vwi r0) [])
 | _,_=>false
abbrev Mh (auz:pK):Fs:=aw apM (amk auz)
def Eg:FnSh:=⟨[.int .u64],[]⟩
def Ts (axW:Ib):SPT
 | [.int x],c_=>axW x (λr0=>c_ (vwi r0) [])
 | _,_=>false
abbrev TV (axW:Ib):Fs:=aw Eg (Ts axW)
def ajV:FnSh:=⟨[.roi .u64],[]⟩
def afd (au6:BO):SPT
 | [.ints x],c_=>au6 x (λr0=>c_ (vwi r0) [])
 | _,_=>false
abbrev TL (au6:BO):Fs:=aw ajV (afd au6)
def ajT:FnSh:=⟨[.roi .u64,.int .i64],[]⟩
def afb (avo:pU):SPT
 | [.ints x,.int i],c_=>avo x i (λr0=>c_ (vwu r0) [])
 | _,_=>false
abbrev Fz (avo:pU):Fs:=aw ajT (afb avo)
def akC:FnSh:=⟨[.roi .u64,.int .i64],[]⟩
def afY (au5:pU):SPT
 | [.ints x,.int from_],c_=>au5 x from_ (λr0=>c_ (vwu r0) [])
 | _,_=>false
abbrev T6 (au5:pU):Fs:=aw akC (afY au5)
def aj5:FnSh:=⟨[.int .u64,.int .u64],[]⟩
def afq (au8:BS):SPT
 | [.int x,.int y],c_=>au8 x y (λr0 r1 r2 r3 r4=>c_ (.agg [vwu r0,vwu r1,vwu r2,vwu r3,.bool r4]) [])
 | _,_=>false
abbrev TR (au8:BS):Fs:=aw aj5 (afq au8)
def aqe:FnSh:=⟨[.int .u64,.int .u64],[]⟩
def amO (awm:zg):SPT
 | [.int x,.int y],c_=>awm x y (λr0 r1=>c_ (.tup [vwu r0,vwu r1]) [])
 | _,_=>false
abbrev QQ (awm:zg):Fs:=aw aqe (amO awm)
def apD:FnSh:=⟨[.int .u64,.int .u64,.int .u64],[]⟩
def amb (auB:mX):SPT
 | [.int a0,.int a1,.int a2],c_=>auB a0 a1 a2 (λr0 r1=>c_ (.tup [vwu r0,vwu r1]) [])
 | _,_=>false
abbrev Gn (auB:mX):Fs:=aw apD (amb auB)
def ap1:FnSh:=⟨[.int .u64,.int .u64,.int .u64,.int .u64],[]⟩
def amz (auL:pL):SPT
 | [.int a,.int b,.int c,.int d],c_=>auL a b c d (λr0 r1=>c_ (.tup [vwu r0,vwu r1]) [])
 | _,_=>false
abbrev G5 (auL:pL):Fs:=aw ap1 (amz auL)
def ak6:FnSh:=⟨[.roi .u64,.int .u64,.int .u64],[]⟩
def agq (axu:HU):SPT
 | [.ints x,.int d,.int more],c_=>axu x d more (λr0=>c_ (vwr r0) [])
 | _,_=>false
abbrev YX (axu:HU):Fs:=aw ak6 (agq axu)
def apO:FnSh:=⟨[.int .u64,.int .u64,.int .u64],[]⟩
def amm (au0:mX):SPT
 | [.int a0,.int a1,.int a2],c_=>au0 a0 a1 a2 (λr0 r1=>c_ (.tup [vwu r0,vwu r1]) [])
 | _,_=>false
abbrev QM (au0:mX):Fs:=aw apO (amm au0)
def akS:FnSh:=⟨[.roi .u64,.roi .u64],[]⟩
def age (axj:B8):SPT
 | [.ints x,.ints y],c_=>axj x y (λr0=>c_ (vwr r0) [])
 | _,_=>false
abbrev Ue (axj:B8):Fs:=aw akS (age axj)
def yf:FnSh:=⟨[.agg [.int .u64,.int .u64,.int .u64,.int .u64,.bool],.roi .u64,.roi .u64],[]⟩
def pQ (at9:cX):SPT
 | [.int w_0,.int w_1,.int w_2,.int w_3,.bool w_4,.ints x,.ints y],c_=>at9 w_0 w_1 w_2 w_3 w_4 x y (λr0 r1=>c_ (.tup [vwr r0,vwr r1]) [])
 | _,_=>false
abbrev jm (at9:cX):Fs:=aw yf (pQ at9)
def apz:FnSh:=⟨[.int .u64],[]⟩
def al8 (au_:Ib):SPT
 | [.int x],c_=>au_ x (λr0=>c_ (vwi r0) [])
 | _,_=>false
abbrev Wz (au_:Ib):Fs:=aw apz (al8 au_)
def ap3:FnSh:=⟨[.int .u64,.int .u64,.int .u64],[]⟩
def amB (avP:mX):SPT
 | [.int hi,.int lo,.int y],c_=>avP hi lo y (λr0 r1=>c_ (.tup [vwu r0,vwu r1]) [])
 | _,_=>false
abbrev Mi (avP:mX):Fs:=aw ap3 (amB avP)
def akc:FnSh:=⟨[.roi .u64,.int .u64],[]⟩
def afz (au9:za):SPT
 | [.ints x,.int d],c_=>au9 x d (λr0 r1=>c_ (.tup [vwr r0,vwu r1]) [])
 | _,_=>false
abbrev TU (au9:za):Fs:=aw akc (afz au9)
def aqf:FnSh:=⟨[.roi .u64,.int .u64],[]⟩
def amP (avH:FC):SPT
 | [.ints x,.int n],c_=>avH x n (c_ (.nil) []) (λr0 r1=>c_ (.sl 0 0 r0) [⟨23,1,.ints .u64 r1⟩])
 | _,_=>false
abbrev aha (avH:FC):Fs:=aw aqf (amP avH)
def ajU:FnSh:=⟨[.sl 0,.roi .u64],[some (23,1,.ints .u64)]⟩
def afc (avG:BN):SPT
 | [.nat u_0,.nat u_1,.ints v,.ints b],c_=>avG u_0 u_1 v b (λr0=>c_ (vwu r0) [⟨23,1,.ints .u64 b⟩])
 | _,_=>false
abbrev TK (avG:BN):Fs:=aw ajU (afc avG)
def Wf:FnSh:=⟨[.sl 0,.roi .u64],[some (23,1,.ints .u64)]⟩
def afg (ava:yY):SPT
 | [.nat u_0,.nat u_1,.ints v,.ints b],c_=>ava u_0 u_1 v b (λr0 r1=>c_ (vwu r0) [⟨23,1,.ints .u64 r1⟩])
 | _,_=>false
abbrev TN (ava:yY):Fs:=aw Wf (afg ava)
def aqh:FnSh:=⟨[.sl 0,.sl 1],[some (23,1,.ints .u64),some (23,1,.ints .u64)]⟩
def amR (awz:FD):SPT
 | [.nat u_0,.nat u_1,.nat v_0,.nat v_1,.ints b,.ints b_1],c_=>awz u_0 u_1 v_0 v_1 b b_1 (λr0=>c_ (vwu r0) [⟨23,1,.ints .u64 b⟩,⟨23,1,.ints .u64 b_1⟩])
 | _,_=>false
abbrev ahc (awz:FD):Fs:=aw aqh (amR awz)
def aqq:FnSh:=⟨[.sl 0,.sl 1],[some (23,1,.ints .u64),some (23,1,.ints .u64)]⟩
def am1 (avL:FE):SPT
 | [.nat u_0,.nat u_1,.nat v_0,.nat v_1,.ints b,.ints b_1],c_=>avL u_0 u_1 v_0 v_1 b b_1 (λr0 r1=>c_ (vwu r0) [⟨23,1,.ints .u64 r1⟩,⟨23,1,.ints .u64 b_1⟩])
 | _,_=>false
abbrev ahe (avL:FE):Fs:=aw aqq (am1 avL)
def Wg:FnSh:=⟨[.sl 0],[some (23,1,.ints .u64)]⟩
def afi (avb:yZ):SPT
 | [.nat x_0,.nat x_1,.ints b],c_=>avb x_0 x_1 b (λr1=>c_ (.sl 0 x_0 r1) [⟨23,1,.ints .u64 b⟩])
 | _,_=>false
abbrev TO (avb:yZ):Fs:=aw Wg (afi avb)
def aj8:FnSh:=⟨[.sl 0,.int .i64],[some (23,1,.ints .u64)]⟩
def afu (av9:BU):SPT
 | [.nat x_0,.nat x_1,.int i,.ints b],c_=>av9 x_0 x_1 i b (λr0=>c_ (vwu r0) [⟨23,1,.ints .u64 b⟩])
 | _,_=>false
abbrev TT (av9:BU):Fs:=aw aj8 (afu av9)
def aqz:FnSh:=⟨[.sl 0,.int .u64],[some (23,1,.ints .u64)]⟩
def ana (avM:FF):SPT
 | [.nat x_0,.nat x_1,.int n,.ints b],c_=>avM x_0 x_1 n b (λr0 r1=>c_ (.tup [vwr r0,.bool r1]) [⟨23,1,.ints .u64 b⟩])
 | _,_=>false
abbrev ahn (avM:FF):Fs:=aw aqz (ana avM)
def J0:FnSh:=⟨[.roi .u64,.roi .u64],[]⟩
def agG (auO:tO):SPT
 | [.ints x,.ints y],c_=>auO x y (λr0 r1=>c_ (.tup [vwr r0,vwr r1]) [])
 | _,_=>false
abbrev NZ (auO:tO):Fs:=aw J0 (agG auO)
def akB:FnSh:=⟨[.roi .u64],[]⟩
def afX (au4:BO):SPT
 | [.ints x],c_=>au4 x (λr0=>c_ (vwu r0) [])
 | _,_=>false
abbrev T5 (au4:BO):Fs:=aw akB (afX au4)
def Nf:FnSh:=⟨[.roi .u64,.roi .u64],[]⟩
def amW (av7:B8):SPT
 | [.ints x,.ints y],c_=>av7 x y (λr0=>c_ (vwr r0) [])
 | _,_=>false
abbrev QR (av7:B8):Fs:=aw Nf (amW av7)
def Nb:FnSh:=⟨[.ptr 0 0,.bool,.roi .u64],[some (210,1,.cells [.bool,.nil,.bool,.nil])]⟩
def amu (awy:zd):SPT
 | [.bool neg,.ints abs,.bool b,.bool b_1],c_=>awy neg abs b b_1 (λr0 r3=>c_ (.ptr 0 0) [⟨210,1,.cells [.bool r0,vwr abs,.bool b_1,vwr r3]⟩])
 | _,_=>false
abbrev WE (awy:zd):Fs:=aw Nb (amu awy)
def aqd:FnSh:=⟨[.ptr 0 2,.bool,.roi .u64],[some (210,1,.cells [.bool,.roi .u64,.bool,.roi .u64])]⟩
def amN (awN:Di):SPT
 | [.bool neg,.ints abs,.bool b,.ints b_1,.bool b_2,.ints b_3],c_=>awN neg abs b b_1 b_2 b_3 (λr2=>c_ (.ptr 0 2) [⟨210,1,.cells [.bool b,vwr b_1,.bool r2,vwr abs]⟩])
 | _,_=>false
abbrev Za (awN:Di):Fs:=aw aqd (amN awN)
def Ee:FnSh:=⟨[.ptr 0 0,.bool,.roi .u64,.roi .u64],[some (210,1,.cells [.bool,.nil,.bool,.nil])]⟩
def Tp (azx:Hk):SPT
 | [.bool neg,.ints a,.ints b,.bool b_1,.bool b_2],c_=>azx neg a b b_1 b_2 (λr0 r1 r2 r3=>c_ (.ptr 0 0) [⟨210,1,.cells [.bool r0,vwr r1,.bool r2,vwr r3]⟩])
 | _,_=>false
abbrev Yq (azx:Hk):Fs:=aw Ee (Tp azx)
def apN:FnSh:=⟨[.ptr 0 0,.ptr 1 0,.ptr 2 0],[some (210,1,.cells [.bool,.nil,.bool,.nil]),some (204,1,.cells [.bool,.roi .u64]),some (204,1,.cells [.bool,.roi .u64])]⟩
def aml (awM:Dc):SPT
 | [.bool b,.bool b_1,.bool b_2,.ints b_3,.bool b_4,.ints b_5],c_=>awM b b_1 b_2 b_3 b_4 b_5 (λr0 r1 r2 r3=>c_ (.ptr 0 0) [⟨210,1,.cells [.bool r0,vwr r1,.bool r2,vwr r3]⟩,⟨204,1,.cells [.bool b_2,vwr b_3]⟩,⟨204,1,.cells [.bool b_4,vwr b_5]⟩])
 | _,_=>false
abbrev Y7 (awM:Dc):Fs:=aw apN (aml awM)
def akb:FnSh:=⟨[.roi .u64,.roi .u64],[]⟩
def afy (awl:B8):SPT
 | [.ints x,.ints y],c_=>awl x y (λr0=>c_ (vwr r0) [])
 | _,_=>false
abbrev KP (awl:B8):Fs:=aw akb (afy awl)
def aqg:FnSh:=⟨[.ptr 0 0,.ptr 0 0,.ptr 1 0],[some (204,1,.cells [.bool,.roi .u64]),some (204,1,.cells [.bool,.roi .u64])]⟩
def amQ (aw6:Ig):SPT
 | [.bool b,.ints b_1,.bool b_2,.ints b_3],c_=>aw6 b b_1 b_2 b_3 (λr0 r1=>c_ (.ptr 0 0) [⟨204,1,.cells [.bool r0,vwr r1]⟩,⟨204,1,.cells [.bool b_2,vwr b_3]⟩])
 | _,_=>false
abbrev ahb (aw6:Ig):Fs:=aw aqg (amQ aw6)
def aj6:FnSh:=⟨[.ptr 0 2,.bool,.slw 1],[some (210,1,.cells [.bool,.roi .u64,.bool,.roi .u64]),some (23,1,.ints .u64)]⟩
def afr (azw:Hj):SPT
 | [.bool neg,.bool b,.ints b_1,.bool b_2,.ints b_3,.ints b_4],c_=>azw neg b b_1 b_2 b_3 b_4 (λr2=>c_ (.ptr 0 2) [⟨210,1,.cells [.bool b,vwr b_1,.bool r2,.slw 1]⟩,⟨23,1,.ints .u64 b_4⟩])
 | _,_=>false
abbrev Yp (azw:Hj):Fs:=aw aj6 (afr azw)
def aj9:FnSh:=⟨[.ptr 0 0,.bool,.roi .u64,.slw 1],[some (210,1,.cells [.bool,.nil,.bool,.nil]),some (23,1,.ints .u64)]⟩
def afv (azz:Hm):SPT
 | [.bool neg,.ints a,.bool b,.bool b_1,.ints b_2],c_=>azz neg a b b_1 b_2 (λr0 r2=>c_ (.ptr 0 0) [⟨210,1,.cells [.bool r0,vwr a,.bool r2,.slw 1]⟩,⟨23,1,.ints .u64 b_2⟩])
 | _,_=>false
abbrev Ys (azz:Hm):Fs:=aw aj9 (afv azz)
def ap6:FnSh:=⟨[.ptr 0 0,.ptr 1 0],[some (210,1,.cells [.bool,.nil,.bool,.nil]),some (204,1,.cells [.bool,.roi .u64])]⟩
def amE (aw5:Ic):SPT
 | [.bool b,.bool b_1,.bool b_2,.ints b_3],c_=>aw5 b b_1 b_2 b_3 (λr0 r1 r2 r3=>c_ (.ptr 0 0) [⟨210,1,.cells [.bool r0,vwr r1,.bool r2,vwr r3]⟩,⟨204,1,.cells [.bool b_2,vwr b_3]⟩])
 | _,_=>false
abbrev ag6 (aw5:Ic):Fs:=aw ap6 (amE aw5)
def hK:FnSh:=⟨[.flt],[]⟩
def nj (aul:gi):SPT
 | [.fl x],c_=>aul x (λr0 r1 r2 r3=>c_ (.agg [.rp [.bool r0,vwr r1,.bool r2,vwr r3] 0]) [])
 | _,_=>false
abbrev ku (aul:gi):Fs:=aw hK (nj aul)
def yT:FnSh:=⟨[.agg [.int .i64,.int .i64,.rof]],[]⟩
def rj (auQ:fp):SPT
 | [.int m_0,.int m_1,.fls m_2],c_=>auQ m_0 m_1 m_2 (λr2=>c_ (.agg [vwi m_0,vwi m_1,.slw 0]) [⟨179,1,.recs RT1 r2⟩])
 | _,_=>false
abbrev jL (auQ:fp):Fs:=aw yT (rj auQ)
def u7:FnSh:=⟨[.agg [.int .i64,.int .i64,.slw 0],.int .i64,.int .i64],[some (179,1,.recs RT1)]⟩
def nD (at5:aJ):SPT
 | [.int g_0,.int g_1,.int i,.int j,.recs t4_ b],c_=>RT.cast RT1 t4_ b (λb=>at5 g_0 g_1 i j b (λr0 r1 r2 r3=>c_ (.agg [.rp [.bool r0,vwr r1,.bool r2,vwr r3] 0]) [⟨179,1,.recs RT1 b⟩])) false
 | _,_=>false
abbrev bL (at5:aJ):Fs:=aw u7 (nD at5)
def ae2:FnSh:=⟨[.rp [.bool,.roi .u64,.bool,.roi .u64] 0],[]⟩
def amH (awT:wj):SPT
 | [.bool x_0,.ints x_1,.bool x_2,.ints x_3],c_=>awT x_0 x_1 x_2 x_3 (λr0=>c_ (vwr r0) [])
 | _,_=>false
abbrev QP (awT:wj):Fs:=aw ae2 (amH awT)
def ap4:FnSh:=⟨[.ptr 0 0,.bool,.roi .u64,.roi .u64],[some (210,1,.cells [.bool,.nil,.bool,.nil])]⟩
def amC (axw:zf):SPT
 | [.bool neg,.ints a,.ints b,.bool b_1,.bool b_2],c_=>axw neg a b b_1 b_2 (λr0 r2=>c_ (.ptr 0 0) [⟨210,1,.cells [.bool r0,vwr a,.bool r2,vwr b]⟩])
 | _,_=>false
abbrev WG (axw:zf):Fs:=aw ap4 (amC axw)
def akk:FnSh:=⟨[.ptr 0 0,.rp [.bool,.roi .u64,.bool,.roi .u64] 0],[some (210,1,.cells [.bool,.nil,.bool,.nil])]⟩
def afH (azF:Hs):SPT
 | [.bool x_0,.ints x_1,.bool x_2,.ints x_3,.bool b,.bool b_1],c_=>azF x_0 x_1 x_2 x_3 b b_1 (λr0 r1 r2 r3=>c_ (.ptr 0 0) [⟨210,1,.cells [.bool r0,vwr r1,.bool r2,vwr r3]⟩])
 | _,_=>false
abbrev Yy (azF:Hs):Fs:=aw akk (afH azF)
def aj7:FnSh:=⟨[.ptr 0 0],[some (210,1,.cells [.bool,.roi .u64,.bool,.roi .u64])]⟩
def aft (azy:wj):SPT
 | [.bool b,.ints b_1,.bool b_2,.ints b_3],c_=>azy b b_1 b_2 b_3 (λr0=>c_ (vwr r0) [⟨210,1,.cells [.bool b,vwr b_1,.bool b_2,vwr b_3]⟩])
 | _,_=>false
abbrev Yr (azy:wj):Fs:=aw aj7 (aft azy)
def Ei:FnSh:=⟨[.roi .u64,.roi .u64],[]⟩
def Tw (awn:B8):SPT
 | [.ints x,.ints y],c_=>awn x y (λr0=>c_ (vwr r0) [])
 | _,_=>false
abbrev NU (awn:B8):Fs:=aw Ei (Tw awn)
def alg:FnSh:=⟨[.roi .u64,.roi .u64],[]⟩
def agB (az8:B8):SPT
 | [.ints x,.ints y],c_=>az8 x y (λr0=>c_ (vwr r0) [])
 | _,_=>false
abbrev Y3 (az8:B8):Fs:=aw alg (agB az8)
def aqu:FnSh:=⟨[.ptr 0 0,.ptr 0 0,.bool,.roi .u64],[some (204,1,.cells [.bool,.roi .u64])]⟩
def am6 (azb:Ig):SPT
 | [.bool neg,.ints y,.bool b,.ints b_1],c_=>azb neg y b b_1 (λr0 r1=>c_ (.ptr 0 0) [⟨204,1,.cells [.bool r0,vwr r1]⟩])
 | _,_=>false
abbrev ahi (azb:Ig):Fs:=aw aqu (am6 azb)
def ajY:FnSh:=⟨[.ptr 0 0,.rp [.bool,.roi .u64,.bool,.roi .u64] 0,.ptr 1 0],[some (210,1,.cells [.bool,.nil,.bool,.nil]),some (210,1,.cells [.bool,.roi .u64,.bool,.roi .u64])]⟩
def afj (azs:Hf):SPT
 | [.bool x_0,.ints x_1,.bool x_2,.ints x_3,.bool b,.bool b_1,.bool b_2,.ints b_3,.bool b_4,.ints b_5],c_=>azs x_0 x_1 x_2 x_3 b b_1 b_2 b_3 b_4 b_5 (λr0 r1 r2 r3=>c_ (.ptr 0 0) [⟨210,1,.cells [.bool r0,vwr r1,.bool r2,vwr r3]⟩,⟨210,1,.cells [.bool b_2,vwr b_3,.bool b_4,vwr b_5]⟩])
 | _,_=>false
abbrev Yl (azs:Hf):Fs:=aw ajY (afj azs)
def akr:FnSh:=⟨[.ptr 0 0,.rp [.bool,.roi .u64,.bool,.roi .u64] 0,.rp [.bool,.roi .u64,.bool,.roi .u64] 0],[some (210,1,.cells [.bool,.nil,.bool,.nil])]⟩
def afO (azM:Hz):SPT
 | [.bool x_0,.ints x_1,.bool x_2,.ints x_3,.bool y_0,.ints y_1,.bool y_2,.ints y_3,.bool b,.bool b_1],c_=>azM x_0 x_1 x_2 x_3 y_0 y_1 y_2 y_3 b b_1 (λr0 r1 r2 r3=>c_ (.ptr 0 0) [⟨210,1,.cells [.bool r0,vwr r1,.bool r2,vwr r3]⟩])
 | _,_=>false
abbrev YF (azM:Hz):Fs:=aw akr (afO azM)
def uy:FnSh:=⟨[.agg [.rp [.bool,.roi .u64,.bool,.roi .u64] 0],.agg [.rp [.bool,.roi .u64,.bool,.roi .u64] 0]],[]⟩
def m8 (at7:ba):SPT
 | [.bool x_0,.ints x_1,.bool x_2,.ints x_3,.bool y_0,.ints y_1,.bool y_2,.ints y_3],c_=>at7 x_0 x_1 x_2 x_3 y_0 y_1 y_2 y_3 (λr0 r1 r2 r3=>c_ (.agg [.rp [.bool r0,vwr r1,.bool r2,vwr r3] 0]) [])
 | _,_=>false
abbrev cT (at7:ba):Fs:=aw uy (m8 at7)
def akJ:FnSh:=⟨[.rp [.bool,.roi .u64,.bool,.roi .u64] 0],[]⟩
def af6 (azS:HG):SPT
 | [.bool x_0,.ints x_1,.bool x_2,.ints x_3],c_=>azS x_0 x_1 x_2 x_3 (λr0=>c_ (vwi r0) [])
 | _,_=>false
abbrev YK (azS:HG):Fs:=aw akJ (af6 azS)
def akK:FnSh:=⟨[.rp [.bool,.roi .u64,.bool,.roi .u64] 0],[]⟩
def af7 (azT:HG):SPT
 | [.bool x_0,.ints x_1,.bool x_2,.ints x_3],c_=>azT x_0 x_1 x_2 x_3 (λr0=>c_ (vwi r0) [])
 | _,_=>false
abbrev YL (azT:HG):Fs:=aw akK (af7 azT)
def uB:FnSh:=⟨[.agg [.rp [.bool,.roi .u64,.bool,.roi .u64] 0]],[]⟩
def na (at6:HG):SPT
 | [.bool x_0,.ints x_1,.bool x_2,.ints x_3],c_=>at6 x_0 x_1 x_2 x_3 (λr0=>c_ (vwi r0) [])
 | _,_=>false
abbrev cU (at6:HG):Fs:=aw uB (na at6)
def pF:FnSh:=⟨[.agg [.int .i64,.int .i64,.slw 0]],[some (179,1,.recs RT1)]⟩
def kg (auH:cz):SPT
 | [.int g_0,.int g_1,.recs t2_ b],c_=>RT.cast RT1 t2_ b (λb=>auH g_0 g_1 b (c_ (.tup []) [⟨179,1,.recs RT1 b⟩])) false
 | _,_=>false
abbrev gY (auH:cz):Fs:=aw pF (kg auH)
def akZ:FnSh:=⟨[.int .i64,.int .i64],[]⟩
def agl (azY:HO):SPT
 | [.int a,.int b],c_=>azY a b (λr0 r1 r2 r3=>c_ (.ptr 0 0) [⟨210,1,.cells [.bool r0,vwr r1,.bool r2,vwr r3]⟩])
 | _,_=>false
abbrev YS (azY:HO):Fs:=aw akZ (agl azY)
def CS:FnSh:=⟨[.int .i64],[]⟩
def vA (aug:ie):SPT
 | [.int n],c_=>aug n (λr0 r1 r2 r3=>c_ (.agg [.rp [.bool r0,vwr r1,.bool r2,vwr r3] 0]) [])
 | _,_=>false
abbrev mm (aug:ie):Fs:=aw CS (vA aug)
def aqk:FnSh:=⟨[.ptr 0 0,.bool,.roi .u64,.roi .u64,.roi .u64,.roi .u64],[some (210,1,.cells [.bool,.nil,.bool,.nil])]⟩
def amU (aza:Ih):SPT
 | [.bool neg,.ints a,.ints b,.ints c,.ints d,.bool b_1,.bool b_2],c_=>aza neg a b c d b_1 b_2 (λr0 r1 r2 r3=>c_ (.ptr 0 0) [⟨210,1,.cells [.bool r0,vwr r1,.bool r2,vwr r3]⟩])
 | _,_=>false
abbrev ahd (aza:Ih):Fs:=aw aqk (amU aza)
def akq:FnSh:=⟨[.ptr 0 0,.rp [.bool,.roi .u64,.bool,.roi .u64] 0,.rp [.bool,.roi .u64,.bool,.roi .u64] 0],[some (210,1,.cells [.bool,.nil,.bool,.nil])]⟩
def afN (azL:Hz):SPT
 | [.bool x_0,.ints x_1,.bool x_2,.ints x_3,.bool y_0,.ints y_1,.bool y_2,.ints y_3,.bool b,.bool b_1],c_=>azL x_0 x_1 x_2 x_3 y_0 y_1 y_2 y_3 b b_1 (λr0 r1 r2 r3=>c_ (.ptr 0 0) [⟨210,1,.cells [.bool r0,vwr r1,.bool r2,vwr r3]⟩])
 | _,_=>false
abbrev YE (azL:Hz):Fs:=aw akq (afN azL)
def uz:FnSh:=⟨[.agg [.rp [.bool,.roi .u64,.bool,.roi .u64] 0],.agg [.rp [.bool,.roi .u64,.bool,.roi .u64] 0]],[]⟩
def m9 (aub:ba):SPT
 | [.bool x_0,.ints x_1,.bool x_2,.ints x_3,.bool y_0,.ints y_1,.bool y_2,.ints y_3],c_=>aub x_0 x_1 x_2 x_3 y_0 y_1 y_2 y_3 (λr0 r1 r2 r3=>c_ (.agg [.rp [.bool r0,vwr r1,.bool r2,vwr r3] 0]) [])
 | _,_=>false
abbrev gO (aub:ba):Fs:=aw uz (m9 aub)
def akp:FnSh:=⟨[.ptr 0 0,.rp [.bool,.roi .u64,.bool,.roi .u64] 0,.rp [.bool,.roi .u64,.bool,.roi .u64] 0],[some (210,1,.cells [.bool,.nil,.bool,.nil])]⟩
def afM (azK:Hz):SPT
 | [.bool x_0,.ints x_1,.bool x_2,.ints x_3,.bool y_0,.ints y_1,.bool y_2,.ints y_3,.bool b,.bool b_1],c_=>azK x_0 x_1 x_2 x_3 y_0 y_1 y_2 y_3 b b_1 (λr0 r1 r2 r3=>c_ (.ptr 0 0) [⟨210,1,.cells [.bool r0,vwr r1,.bool r2,vwr r3]⟩])
 | _,_=>false
abbrev YD (azK:Hz):Fs:=aw akp (afM azK)
def ta:FnSh:=⟨[.agg [.rp [.bool,.roi .u64,.bool,.roi .u64] 0],.agg [.rp [.bool,.roi .u64,.bool,.roi .u64] 0]],[]⟩
def me (aud:ba):SPT
 | [.bool x_0,.ints x_1,.bool x_2,.ints x_3,.bool y_0,.ints y_1,.bool y_2,.ints y_3],c_=>aud x_0 x_1 x_2 x_3 y_0 y_1 y_2 y_3 (λr0 r1 r2 r3=>c_ (.agg [.rp [.bool r0,vwr r1,.bool r2,vwr r3] 0]) [])
 | _,_=>false
abbrev gq (aud:ba):Fs:=aw ta (me aud)
def akf:FnSh:=⟨[.ptr 0 0,.rp [.bool,.roi .u64,.bool,.roi .u64] 0,.rp [.bool,.roi .u64,.bool,.roi .u64] 0],[some (210,1,.cells [.bool,.nil,.bool,.nil])]⟩
def afC (azD:Hz):SPT
 | [.bool x_0,.ints x_1,.bool x_2,.ints x_3,.bool y_0,.ints y_1,.bool y_2,.ints y_3,.bool b,.bool b_1],c_=>azD x_0 x_1 x_2 x_3 y_0 y_1 y_2 y_3 b b_1 (λr0 r1 r2 r3=>c_ (.ptr 0 0) [⟨210,1,.cells [.bool r0,vwr r1,.bool r2,vwr r3]⟩])
 | _,_=>false
abbrev Yw (azD:Hz):Fs:=aw akf (afC azD)
def uA:FnSh:=⟨[.agg [.rp [.bool,.roi .u64,.bool,.roi .u64] 0],.agg [.rp [.bool,.roi .u64,.bool,.roi .u64] 0]],[]⟩
def m_ (auf:ba):SPT
 | [.bool x_0,.ints x_1,.bool x_2,.ints x_3,.bool y_0,.ints y_1,.bool y_2,.ints y_3],c_=>auf x_0 x_1 x_2 x_3 y_0 y_1 y_2 y_3 (λr0 r1 r2 r3=>c_ (.agg [.rp [.bool r0,vwr r1,.bool r2,vwr r3] 0]) [])
 | _,_=>false
abbrev gP (auf:ba):Fs:=aw uA (m_ auf)
def u9:FnSh:=⟨[.agg [.int .i64,.int .i64,.slw 0],.int .i64,.int .i64,.agg [.rp [.bool,.roi .u64,.bool,.roi .u64] 0]],[some (179,1,.recs RT1)]⟩
def nE (aui:cW):SPT
 | [.int g_0,.int g_1,.int i,.int j,.bool x_0,.ints x_1,.bool x_2,.ints x_3,.recs t8_ b],c_=>RT.cast RT1 t8_ b (λb=>aui g_0 g_1 i j x_0 x_1 x_2 x_3 b (λr0=>c_ (.tup []) [⟨179,1,.recs RT1 r0⟩])) false
 | _,_=>false
abbrev ib (aui:cW):Fs:=aw u9 (nE aui)
def uZ:FnSh:=⟨[.agg [.int .i64,.int .i64,.slw 0],.int .i64,.int .i64,.agg [.rp [.bool,.roi .u64,.bool,.roi .u64] 0]],[some (179,1,.recs RT1)]⟩
def nC (auc:cW):SPT
 | [.int g_0,.int g_1,.int i,.int k_,.bool x_0,.ints x_1,.bool x_2,.ints x_3,.recs t8_ b],c_=>RT.cast RT1 t8_ b (λb=>auc g_0 g_1 i k_ x_0 x_1 x_2 x_3 b (λr0=>c_ (.tup []) [⟨179,1,.recs RT1 r0⟩])) false
 | _,_=>false
abbrev ia (auc:cW):Fs:=aw uZ (nC auc)
def qm:FnSh:=⟨[.agg [.int .i64,.int .i64,.slw 0]],[some (179,1,.recs RT1)]⟩
def kp (auM:cH):SPT
 | [.int g_0,.int g_1,.recs t2_ b],c_=>RT.cast RT1 t2_ b (λb=>auM g_0 g_1 b (λr0 r1=>c_ (vwi r0) [⟨179,1,.recs RT1 r1⟩])) false
 | _,_=>false
abbrev ip (auM:cH):Fs:=aw qm (kp auM)
def ux:FnSh:=⟨[.agg [.int .i64,.int .i64,.slw 0]],[some (179,1,.recs RT1)]⟩
def mZ (auw:cH):SPT
 | [.int g_0,.int g_1,.recs t2_ b],c_=>RT.cast RT1 t2_ b (λb=>auw g_0 g_1 b (λr0 r1=>c_ (vwi r0) [⟨179,1,.recs RT1 r1⟩])) false
 | _,_=>false
abbrev gN (auw:cH):Fs:=aw ux (mZ auw)
def ri:FnSh:=⟨[.agg [.int .i64,.int .i64,.rof]],[]⟩
def nh (avp:ix):SPT
 | [.int m_0,.int m_1,.fls m_2],c_=>avp m_0 m_1 m_2 (λr0 r1=>c_ (.tup [vwi r0,vwi r1]) [])
 | _,_=>false
abbrev nT (avp:ix):Fs:=aw ri (nh avp)
def Bf:FnSh:=⟨[.agg [.int .i64,.int .i64,.rof]],[]⟩
def uC (auU:FB):SPT
 | [.int p_0,.int p_1,.fls p_2],c_=>auU p_0 p_1 p_2 (λr0=>c_ (.bool r0) [])
 | _,_=>false
abbrev jl (auU:FB):Fs:=aw Bf (uC auU)
def Fq:FnSh:=⟨[.agg [.rof,.int .i64,.int .i64,.rof]],[]⟩
def yA (auA:jk):SPT
 | [.fls s_0,.int s_1,.int s_2,.fls s_3],c_=>auA s_0 s_1 s_2 s_3 (λr0=>c_ (vwi r0) [])
 | _,_=>false
abbrev j8 (auA:jk):Fs:=aw Fq (yA auA)
def ak5:FnSh:=⟨[.int .i64,.int .i64,.int .i64],[]⟩
def agp (az2:Cc):SPT
 | [.int rows,.int cols,.int n],c_=>az2 rows cols n (λr0=>c_ (vwi r0) [])
 | _,_=>false
abbrev YW (az2:Cc):Fs:=aw ak5 (agp az2)
def akX:FnSh:=⟨[.flt],[]⟩
def agj (axH:EM):SPT
 | [.fl x],c_=>axH x (λr0=>c_ (vwu r0) [])
 | _,_=>false
abbrev Uh (axH:EM):Fs:=aw akX (agj axH)
def akz:FnSh:=⟨[.flt],[]⟩
def afV (avO:xk):SPT
 | [.fl x],c_=>avO x (λr0 r1 r2=>c_ (.tup [.bool r0,vwi r1,vwu r2]) [])
 | _,_=>false
abbrev NT (avO:xk):Fs:=aw akz (afV avO)
def akM:FnSh:=⟨[.int .i64,.int .u64,.int .i64],[]⟩
def af9 (azU:Cc):SPT
 | [.int exp,.int frac,.int most],c_=>azU exp frac most (λr0=>c_ (vwi r0) [])
 | _,_=>false
abbrev YM (azU:Cc):Fs:=aw akM (af9 azU)
def ak4:FnSh:=⟨[.flt],[]⟩
def ago (az1:EM):SPT
 | [.fl x],c_=>az1 x (λr0=>c_ (vwi r0) [])
 | _,_=>false
abbrev YV (az1:EM):Fs:=aw ak4 (ago az1)
def apH:FnSh:=⟨[.flt],[]⟩
def amf (axq:FA):SPT
 | [.fl x],c_=>axq x (λr0=>c_ (.bool r0) [])
 | _,_=>false
abbrev WB (axq:FA):Fs:=aw apH (amf axq)
def ajS:FnSh:=⟨[.rof],[]⟩
def afa (axV:H_):SPT
 | [.fls l],c_=>axV l (λr0=>c_ (.bool r0) [])
 | _,_=>false
abbrev TJ (axV:H_):Fs:=aw ajS (afa axV)
def akw:FnSh:=⟨[.agg [.int .i64,.int .i64,.rof]],[]⟩
def afS (avW:wh):SPT
 | [.int m_0,.int m_1,.fls m_2],c_=>avW m_0 m_1 m_2 (λr0=>c_ (vwi r0) [])
 | _,_=>false
abbrev NS (avW:wh):Fs:=aw akw (afS avW)
def akY:FnSh:=⟨[.agg [.int .i64,.int .i64,.rof]],[]⟩
def agk (ax1:wh):SPT
 | [.int m_0,.int m_1,.fls m_2],c_=>ax1 m_0 m_1 m_2 (λr0=>c_ (vwi r0) [])
 | _,_=>false
abbrev Ui (ax1:wh):Fs:=aw akY (agk ax1)
def aqa:FnSh:=⟨[.agg [.int .i64,.int .i64,.rof],.int .i64,.int .i64],[]⟩
def amK (auP:EC):SPT
 | [.int m_0,.int m_1,.fls m_2,.int i,.int j],c_=>auP m_0 m_1 m_2 i j (λr0=>c_ (.flt r0) [])
 | _,_=>false
abbrev G6 (auP:EC):Fs:=aw aqa (amK auP)
def akF:FnSh:=⟨[.flt,.flt],[]⟩
def af2 (awg:EL):SPT
 | [.fl a,.fl b],c_=>awg a b (λr0=>c_ (.bool r0) [])
 | _,_=>false
abbrev T_ (awg:EL):Fs:=aw akF (af2 awg)
def ap5:FnSh:=⟨[.agg [.int .i64,.int .i64,.rof]],[]⟩
def amD (av_:wh):SPT
 | [.int m_0,.int m_1,.fls m_2],c_=>av_ m_0 m_1 m_2 (λr0=>c_ (vwi r0) [])
 | _,_=>false
abbrev Y8 (av_:wh):Fs:=aw ap5 (amD av_)
def ak8:FnSh:=⟨[.agg [.rof,.int .i64,.int .i64,.rof]],[]⟩
def ags (az4:jk):SPT
 | [.fls s_0,.int s_1,.int s_2,.fls s_3],c_=>az4 s_0 s_1 s_2 s_3 (λr0=>c_ (vwi r0) [])
 | _,_=>false
abbrev YZ (az4:jk):Fs:=aw ak8 (ags az4)
def ak3:FnSh:=⟨[.int .u64,.int .i64],[]⟩
def agn (awi:zg):SPT
 | [.int m,.int e],c_=>awi m e (λr0 r1=>c_ (.tup [vwu r0,vwi r1]) [])
 | _,_=>false
abbrev Uk (awi:zg):Fs:=aw ak3 (agn awi)
def Ej:FnSh:=⟨[.flt],[]⟩
def TA (azZ:B9):SPT
 | [.fl x],c_=>azZ x (λr0 r1 r2 r3=>c_ (.tup [.agg [.bool r0,vwu r1,vwi r2],vwi r3]) [])
 | _,_=>false
abbrev YT (azZ:B9):Fs:=aw Ej (TA azZ)
def al7:FnSh:=⟨[.slw 0],[some (195,1,.ints .u32)]⟩
def as4 (SQ8:lP):SPT
 | [.ints b],c_=>SQ8 b (λr0=>c_ (.sl 0 0 r0) [⟨195,1,.ints .u32 b⟩])
 | _,_=>false
abbrev FQ8 (SQ8:lP):Fs:=aw al7 (as4 SQ8)
def akj:FnSh:=⟨[.int .u64],[]⟩
def afG (avE:sj):SPT
 | [.int n],c_=>avE n (λr0=>c_ (vws r0) [])
 | _,_=>false
abbrev KR (avE:sj):Fs:=aw akj (afG avE)
def akH:FnSh:=⟨[.roi .u32],[]⟩
def af4 (awH:mY):SPT
 | [.ints m],c_=>awH m (λr0=>c_ (vws r0) [])
 | _,_=>false
abbrev KS (awH:mY):Fs:=aw akH (af4 awH)
def ajX:FnSh:=⟨[.ptr 0 0,.bool,.roi .u32],[some (151,1,.cells [.bool,.nil])]⟩
def afh (avq:pV):SPT
 | [.bool neg,.ints m,.bool b],c_=>avq neg m b (λr0 r1=>c_ (.ptr 0 0) [⟨151,1,.cells [.bool r0,vws r1]⟩])
 | _,_=>false
abbrev G0 (avq:pV):Fs:=aw ajX (afh avq)
def aki:FnSh:=⟨[.ptr 0 0,.int .u64],[some (151,1,.cells [.bool,.nil])]⟩
def afF (azE:Ie):SPT
 | [.int n,.bool b],c_=>azE n b (λr0 r1=>c_ (.ptr 0 0) [⟨151,1,.cells [.bool r0,vws r1]⟩])
 | _,_=>false
abbrev Yx (azE:Ie):Fs:=aw aki (afF azE)
def akN:FnSh:=⟨[.ptr 0 0,.bool,.slw 1],[some (151,1,.cells [.bool,.roi .u32]),some (195,1,.ints .u32)]⟩
def af_ (azV:HJ):SPT
 | [.bool neg,.bool b,.ints b_1,.ints b_2],c_=>azV neg b b_1 b_2 (λr0 r1 r2=>c_ (.ptr 0 0) [⟨151,1,.cells [.bool r0,.sl 1 r1 r2]⟩,⟨195,1,.ints .u32 b_2⟩])
 | _,_=>false
abbrev YN (azV:HJ):Fs:=aw akN (af_ azV)
def akI:FnSh:=⟨[.ptr 0 0,.ptr 0 0],[some (151,1,.cells [.bool,.roi .u32])]⟩
def af5 (azR:Im):SPT
 | [.bool b,.ints b_1],c_=>azR b b_1 (λr0 r1=>c_ (.ptr 0 0) [⟨151,1,.cells [.bool r0,vws r1]⟩])
 | _,_=>false
abbrev YJ (azR:Im):Fs:=aw akI (af5 azR)
def alj:FnSh:=⟨[.flt],[]⟩
def agE (aAa:H7):SPT
 | [.fl x],c_=>aAa x (λr0 r1 r2=>c_ (.agg [.ptr 0 0,vwi r0]) [⟨151,1,.cells [.bool r1,vws r2]⟩])
 | _,_=>false
abbrev Y6 (aAa:H7):Fs:=aw alj (agE aAa)
def alc:FnSh:=⟨[.roi .u32,.int .u64],[]⟩
def agx (az6:HY):SPT
 | [.ints m,.int n],c_=>az6 m n (λr0=>c_ (vws r0) [])
 | _,_=>false
abbrev Y1 (az6:HY):Fs:=aw alc (agx az6)
def ake:FnSh:=⟨[.ptr 0 0,.ptr 1 0,.int .u64],[some (151,1,.cells [.bool,.nil]),some (151,1,.cells [.bool,.roi .u32])]⟩
def afB (axX:Ii):SPT
 | [.int n,.bool b,.bool b_1,.ints b_2],c_=>axX n b b_1 b_2 (λr0 r1=>c_ (.ptr 0 0) [⟨151,1,.cells [.bool r0,vws r1]⟩,⟨151,1,.cells [.bool b_1,vws b_2]⟩])
 | _,_=>false
abbrev TX (axX:Ii):Fs:=aw ake (afB axX)
def aj4:FnSh:=⟨[.agg [.ptr 0 0,.int .i64],.int .i64],[some (151,1,.cells [.bool,.roi .u32])]⟩
def afp (azu:Hh):SPT
 | [.int x,.int e,.bool b,.ints b_1],c_=>azu x e b b_1 (c_ (.agg [.ptr 0 0,vwi x]) [⟨151,1,.cells [.bool b,vws b_1]⟩]) (λr3 r4=>c_ (.agg [.ptr 1 0,vwi e]) [⟨151,1,.cells [.bool b,vws b_1]⟩,⟨151,1,.cells [.bool r3,vws r4]⟩])
 | _,_=>false
abbrev Yn (azu:Hh):Fs:=aw aj4 (afp azu)
def aj1:FnSh:=⟨[],[]⟩
def afm (auy:lT):SPT
 | [],c_=>auy (λr0=>c_ (vws r0) [])
 | _,_=>false
abbrev C9 (auy:lT):Fs:=aw aj1 (afm auy)
def Wi:FnSh:=⟨[.ptr 0 0,.bool,.roi .u32],[some (153,1,.cells [.bool,.nil,.bool,.nil])]⟩
def afs (avC:BT):SPT
 | [.bool neg,.ints m,.bool b,.bool b_1],c_=>avC neg m b b_1 (λr0 r1 r3=>c_ (.ptr 0 0) [⟨153,1,.cells [.bool r0,vws r1,.bool b_1,vws r3]⟩])
 | _,_=>false
abbrev TS (avC:BT):Fs:=aw Wi (afs avC)
def aql:FnSh:=⟨[.ptr 0 2,.bool,.roi .u32],[some (153,1,.cells [.bool,.roi .u32,.bool,.roi .u32])]⟩
def amV (ave:zh):SPT
 | [.bool neg,.ints m,.bool b,.ints b_1,.bool b_2,.ints b_3],c_=>ave neg m b b_1 b_2 b_3 (λr2 r3=>c_ (.ptr 0 2) [⟨153,1,.cells [.bool b,vws b_1,.bool r2,vws r3]⟩])
 | _,_=>false
abbrev WH (ave:zh):Fs:=aw aql (amV ave)
def Nc:FnSh:=⟨[.int .u32],[]⟩
def agK (ax_:Ib):SPT
 | [.int x],c_=>ax_ x (λr0=>c_ (vwi r0) [])
 | _,_=>false
abbrev Y9 (ax_:Ib):Fs:=aw Nc (agK ax_)
def apB:FnSh:=⟨[.ptr 0 0],[some (151,1,.cells [.bool,.roi .u32])]⟩
def al_ (au7:y_):SPT
 | [.bool b,.ints b_1],c_=>au7 b b_1 (λr0=>c_ (vwu r0) [⟨151,1,.cells [.bool b,vws b_1]⟩])
 | _,_=>false
abbrev WA (au7:y_):Fs:=aw apB (al_ au7)
def aqm:FnSh:=⟨[.roi .u32,.int .u64],[]⟩
def amX (auY:HY):SPT
 | [.ints m,.int n],c_=>auY m n (λr0=>c_ (vws r0) [])
 | _,_=>false
abbrev Mj (auY:HY):Fs:=aw aqm (amX auY)
def aks:FnSh:=⟨[.int .u32],[]⟩
def afP (axY:Ib):SPT
 | [.int x],c_=>axY x (λr0=>c_ (vwi r0) [])
 | _,_=>false
abbrev TZ (axY:Ib):Fs:=aw aks (afP axY)
def apL:FnSh:=⟨[.ptr 0 0],[some (151,1,.cells [.bool,.roi .u32])]⟩
def amj (auK:y_):SPT
 | [.bool b,.ints b_1],c_=>auK b b_1 (λr0=>c_ (vwi r0) [⟨151,1,.cells [.bool b,vws b_1]⟩])
 | _,_=>false
abbrev NY (auK:y_):Fs:=aw apL (amj auK)
def apA:FnSh:=⟨[.roi .u32,.roi .u32],[]⟩
def al9 (aum:pK):SPT
 | [.ints a,.ints b],c_=>aum a b (λr0=>c_ (vwi r0) [])
 | _,_=>false
abbrev G2 (aum:pK):Fs:=aw apA (al9 aum)
def akv:FnSh:=⟨[.roi .u32,.int .i64],[]⟩
def afR (avr:pU):SPT
 | [.ints m,.int at_],c_=>avr m at_ (λr0=>c_ (vwu r0) [])
 | _,_=>false
abbrev T2 (avr:pU):Fs:=aw akv (afR avr)
def akd:FnSh:=⟨[.int .u64,.int .u64],[]⟩
def afA (avu:BW):SPT
 | [.int x,.int y],c_=>avu x y (λr0 r1 r2 r3=>c_ (.tup [vwi r0,vwi r1,vwi r2,vwi r3]) [])
 | _,_=>false
abbrev TW (avu:BW):Fs:=aw akd (afA avu)
def aqw:FnSh:=⟨[.roi .u32,.int .u32],[]⟩
def am9 (avf:za):SPT
 | [.ints m,.int d],c_=>avf m d (λr0 r1=>c_ (.tup [vws r0,vwv r1]) [])
 | _,_=>false
abbrev ahl (avf:za):Fs:=aw aqw (am9 avf)
def apF:FnSh:=⟨[.int .u32],[]⟩
def amd (avd:Ib):SPT
 | [.int x],c_=>avd x (λr0=>c_ (vwi r0) [])
 | _,_=>false
abbrev agT (avd:Ib):Fs:=aw apF (amd avd)
def apV:FnSh:=⟨[.roi .u32,.int .u64],[]⟩
def ams (avc:FC):SPT
 | [.ints m,.int n],c_=>avc m n (c_ (.nil) []) (λr0 r1=>c_ (.sl 0 0 r0) [⟨195,1,.ints .u32 r1⟩])
 | _,_=>false
abbrev ag0 (avc:FC):Fs:=aw apV (ams avc)
def apZ:FnSh:=⟨[.sl 0,.sl 1,.int .i64,.int .u64],[some (195,1,.ints .u32),some (195,1,.ints .u32)]⟩
def amx (avj:De):SPT
 | [.nat u_0,.nat u_1,.nat d_0,.nat d_1,.int j,.int g,.ints b,.ints b_1],c_=>avj u_0 u_1 d_0 d_1 j g b b_1 (λr0 r1=>c_ (.bool r0) [⟨195,1,.ints .u32 r1⟩,⟨195,1,.ints .u32 b_1⟩])
 | _,_=>false
abbrev ag2 (avj:De):Fs:=aw apZ (amx avj)
def ap0:FnSh:=⟨[.sl 0,.sl 1,.int .i64],[some (195,1,.ints .u32),some (195,1,.ints .u32)]⟩
def amy (avk:Df):SPT
 | [.nat u_0,.nat u_1,.nat d_0,.nat d_1,.int j,.ints b,.ints b_1],c_=>avk u_0 u_1 d_0 d_1 j b b_1 (λr0=>c_ (.tup []) [⟨195,1,.ints .u32 r0⟩,⟨195,1,.ints .u32 b_1⟩])
 | _,_=>false
abbrev ag3 (avk:Df):Fs:=aw ap0 (amy avk)
def aqy:FnSh:=⟨[.sl 0],[some (195,1,.ints .u32)]⟩
def am_ (avm:yZ):SPT
 | [.nat m_0,.nat m_1,.ints b],c_=>avm m_0 m_1 b (λr1=>c_ (.sl 0 m_0 r1) [⟨195,1,.ints .u32 b⟩])
 | _,_=>false
abbrev ahm (avm:yZ):Fs:=aw aqy (am_ avm)
def ap8:FnSh:=⟨[.sl 0,.int .u64],[some (195,1,.ints .u32)]⟩
def amG (avl:Dh):SPT
 | [.nat m_0,.nat m_1,.int n,.ints b],c_=>avl m_0 m_1 n b (λr0=>c_ (vws r0) [⟨195,1,.ints .u32 b⟩])
 | _,_=>false
abbrev ag8 (avl:Dh):Fs:=aw ap8 (amG avl)
def J2:FnSh:=⟨[.roi .u32,.roi .u32],[]⟩
def agM (auG:tO):SPT
 | [.ints a,.ints b],c_=>auG a b (λr0 r1=>c_ (.tup [vws r0,vws r1]) [])
 | _,_=>false
abbrev N2 (auG:tO):Fs:=aw J2 (agM auG)
def aj0:FnSh:=⟨[.roi .u32,.roi .u32],[]⟩
def afl (av5:B8):SPT
 | [.ints a,.ints b],c_=>av5 a b (λr0=>c_ (vws r0) [])
 | _,_=>false
abbrev G3 (av5:B8):Fs:=aw aj0 (afl av5)
def akL:FnSh:=⟨[.roi .u32,.roi .u32],[]⟩
def af8 (axG:B8):SPT
 | [.ints a,.ints b],c_=>axG a b (λr0=>c_ (vws r0) [])
 | _,_=>false
abbrev Ub (axG:B8):Fs:=aw akL (af8 axG)
def akW:FnSh:=⟨[.roi .u32,.int .u64,.roi .u32,.int .u64],[]⟩
def agi (ayU:HN):SPT
 | [.ints a,.int u,.ints b,.int v],c_=>ayU a u b v (λr0=>c_ (vws r0) [])
 | _,_=>false
abbrev YR (ayU:HN):Fs:=aw akW (agi ayU)
def akE:FnSh:=⟨[.roi .u32,.int .i64,.roi .u32,.int .i64],[]⟩
def af1 (avs:HN):SPT
 | [.ints a,.int u,.ints b,.int v],c_=>avs a u b v (λr0=>c_ (vws r0) [])
 | _,_=>false
abbrev T8 (avs:HN):Fs:=aw akE (af1 avs)
def Ng:FnSh:=⟨[.roi .u32,.roi .u32],[]⟩
def am3 (avn:B8):SPT
 | [.ints a,.ints b],c_=>avn a b (λr0=>c_ (vws r0) [])
 | _,_=>false
abbrev WI (avn:B8):Fs:=aw Ng (am3 avn)
def J1:FnSh:=⟨[.ptr 0 0,.bool,.roi .u32,.roi .u32],[some (153,1,.cells [.bool,.nil,.bool,.nil])]⟩
def agJ (axv:Hk):SPT
 | [.bool neg,.ints a,.ints b,.bool b_1,.bool b_2],c_=>axv neg a b b_1 b_2 (λr0 r1 r2 r3=>c_ (.ptr 0 0) [⟨153,1,.cells [.bool r0,vws r1,.bool r2,vws r3]⟩])
 | _,_=>false
abbrev WF (axv:Hk):Fs:=aw J1 (agJ axv)
def ajO:FnSh:=⟨[.ptr 0 0,.ptr 1 0],[some (153,1,.cells [.bool,.nil,.bool,.nil]),some (151,1,.cells [.bool,.roi .u32])]⟩
def ae7 (ayS:Ic):SPT
 | [.bool b,.bool b_1,.bool b_2,.ints b_3],c_=>ayS b b_1 b_2 b_3 (λr0 r1 r2 r3=>c_ (.ptr 0 0) [⟨153,1,.cells [.bool r0,vws r1,.bool r2,vws r3]⟩,⟨151,1,.cells [.bool b_2,vws b_3]⟩])
 | _,_=>false
abbrev Yk (ayS:Ic):Fs:=aw ajO (ae7 ayS)
def Eh:FnSh:=⟨[.ptr 0 0,.int .i64],[some (151,1,.cells [.bool,.nil])]⟩
def Tt (azJ:Ie):SPT
 | [.int n,.bool b],c_=>azJ n b (λr0 r1=>c_ (.ptr 0 0) [⟨151,1,.cells [.bool r0,vws r1]⟩])
 | _,_=>false
abbrev YC (azJ:Ie):Fs:=aw Eh (Tt azJ)
def akV:FnSh:=⟨[.int .i64],[]⟩
def agh (azX:xj):SPT
 | [.int n],c_=>azX n (λr0 r1=>c_ (.ptr 0 0) [⟨151,1,.cells [.bool r0,vws r1]⟩])
 | _,_=>false
abbrev YQ (azX:xj):Fs:=aw akV (agh azX)
def aqo:FnSh:=⟨[.ptr 0 0,.ptr 1 0,.ptr 2 0],[some (153,1,.cells [.bool,.nil,.bool,.nil]),some (151,1,.cells [.bool,.roi .u32]),some (151,1,.cells [.bool,.roi .u32])]⟩
def amZ (aBf:Dc):SPT
 | [.bool b,.bool b_1,.bool b_2,.ints b_3,.bool b_4,.ints b_5],c_=>aBf b b_1 b_2 b_3 b_4 b_5 (λr0 r1 r2 r3=>c_ (.ptr 0 0) [⟨153,1,.cells [.bool r0,vws r1,.bool r2,vws r3]⟩,⟨151,1,.cells [.bool b_2,vws b_3]⟩,⟨151,1,.cells [.bool b_4,vws b_5]⟩])
 | _,_=>false
abbrev ang (aBf:Dc):Fs:=aw aqo (amZ aBf)
def aka:FnSh:=⟨[.agg [.ptr 0 0,.int .i64]],[some (151,1,.cells [.bool,.roi .u32])]⟩
def afx (azB:Ho):SPT
 | [.int x,.bool b,.ints b_1],c_=>azB x b b_1 (λr2 r3 r4 r5=>c_ (.ptr 1 0) [⟨151,1,.cells [.bool b,vws b_1]⟩,⟨153,1,.cells [.bool r2,vws r3,.bool r4,vws r5]⟩])
 | _,_=>false
abbrev Yu (azB:Ho):Fs:=aw aka (afx azB)
def akO:FnSh:=⟨[.flt],[]⟩
def aga (awD:gi):SPT
 | [.fl x],c_=>awD x (λr0 r1 r2 r3=>c_ (.ptr 0 0) [⟨153,1,.cells [.bool r0,vws r1,.bool r2,vws r3]⟩])
 | _,_=>false
abbrev Uc (awD:gi):Fs:=aw akO (aga awD)
def ak1:FnSh:=⟨[.agg [.int .i64,.int .i64,.rof]],[]⟩
def agm (az0:HR):SPT
 | [.int m_0,.int m_1,.fls m_2],c_=>az0 m_0 m_1 m_2 (λr2=>c_ (.agg [vwi m_0,vwi m_1,.slw 0]) [⟨146,1,.own 153 RT2 r2 []⟩])
 | _,_=>false
abbrev YU (az0:HR):Fs:=aw ak1 (agm az0)
def ak7:FnSh:=⟨[.agg [.int .i64,.int .i64,.rof]],[]⟩
def agr (az3:HR):SPT
 | [.int m_0,.int m_1,.fls m_2],c_=>az3 m_0 m_1 m_2 (λr2=>c_ (.agg [vwi m_0,vwi m_1,.slw 0]) [⟨146,1,.own 153 RT2 r2 []⟩])
 | _,_=>false
abbrev YY (az3:HR):Fs:=aw ak7 (agr az3)
def akD:FnSh:=⟨[.int .i64,.int .i64],[]⟩
def afZ (awC:EG):SPT
 | [.int rows,.int cols],c_=>awC rows cols (λr2=>c_ (.agg [vwi rows,vwi cols,.slw 0]) [⟨146,1,.own 153 RT2 r2 []⟩])
 | _,_=>false
abbrev T7 (awC:EG):Fs:=aw akD (afZ awC)
def aku:FnSh:=⟨[.rp [.bool,.roi .u32,.bool,.roi .u32] 0],[]⟩
def Tu (ayj:wj):SPT
 | [.bool r_0,.ints r_1,.bool r_2,.ints r_3],c_=>ayj r_0 r_1 r_2 r_3 (λr0=>c_ (vws r0) [])
 | _,_=>false
abbrev T1 (ayj:wj):Fs:=aw aku (Tu ayj)
theorem sA (ayj:wj):FrF 2 (T1 ayj):=by
 refine FX λa k h=>?_
 unfold Tu at h ⊢;split at h
 ·rename_i aGw aGx aGy aGz;refine⟨[],rfl,?_⟩;simp only[vq,vt,decide_true,Bool.and_true];exact h
 ·cases h
def Wk:FnSh:=⟨[.ptr 0 0,.bool,.slw 1],[some (153,1,.cells [.bool,.roi .u32,.bool,.roi .u32]),some (195,1,.ints .u32)]⟩
def af0 (azP:HC):SPT
 | [.bool neg,.bool b,.ints b_1,.bool b_2,.ints b_3,.ints b_4],c_=>azP neg b b_1 b_2 b_3 b_4 (λr0 r1 r2=>c_ (.ptr 0 0) [⟨153,1,.cells [.bool r0,.sl 1 r1 r2,.bool b_2,vws b_3]⟩,⟨195,1,.ints .u32 b_4⟩])
 | _,_=>false
abbrev YI (azP:HC):Fs:=aw Wk (af0 azP)
def akA:FnSh:=⟨[.ptr 0 2,.bool,.slw 1],[some (153,1,.cells [.bool,.sl 2,.bool,.roi .u32]),some (195,1,.ints .u32),some (195,1,.ints .u32)]⟩
def afW (azO:HB):SPT
 | [.bool neg,.bool b,.nat b_1,.nat b_2,.bool b_3,.ints b_4,.ints b_5,.ints b_6],c_=>azO neg b b_1 b_2 b_3 b_4 b_5 b_6 (λr3 r4 r5=>c_ (.ptr 0 2) [⟨153,1,.cells [.bool b,.sl 2 b_1 b_2,.bool r3,.sl 1 r4 r5]⟩,⟨195,1,.ints .u32 b_5⟩,⟨195,1,.ints .u32 b_6⟩])
 | _,_=>false
abbrev YH (azO:HB):Fs:=aw akA (afW azO)
def ajR:FnSh:=⟨[.ptr 0 0,.rp [.bool,.roi .u32,.bool,.roi .u32] 0],[some (153,1,.cells [.bool,.roi .u32,.bool,.roi .u32])]⟩
def ae_ (awB:ba):SPT
 | [.bool x_0,.ints x_1,.bool x_2,.ints x_3,.bool b,.ints b_1,.bool b_2,.ints b_3],c_=>awB x_0 x_1 x_2 x_3 b b_1 b_2 b_3 (λr0 r1 r2 r3=>c_ (.ptr 0 0) [⟨153,1,.cells [.bool r0,vws r1,.bool r2,vws r3]⟩])
 | _,_=>false
abbrev TI (awB:ba):Fs:=aw ajR (ae_ awB)
def apX:FnSh:=⟨[.agg [.int .i64,.int .i64,.rl RT3]],[]⟩
def amv (av1:Ia):SPT
 | [.int m_0,.int m_1,.recs t2_ m_2],c_=>RT.cast RT3 t2_ m_2 (λm_2=>av1 m_0 m_1 m_2 (λr2=>c_ (.agg [vwi m_0,vwi m_1,.slw 0]) [⟨146,1,.own 153 RT2 r2 []⟩])) false
 | _,_=>false
abbrev ag1 (av1:Ia):Fs:=aw apX (amv av1)
def apR:FnSh:=⟨[.agg [.int .i64,.int .i64,.slw 0],.int .i64,.int .i64],[some (146,1,.own 153 RT2)]⟩
def amp (avi:Bp):SPT
 | [.int m_0,.int m_1,.int i,.int j,.recs t4_ b],c_=>RT.cast RT2 t4_ b (λb=>avi m_0 m_1 i j b (λr0=>c_ (.opt 0 r0 0) [⟨146,1,.own 153 RT2 b []⟩])) false
 | _,_=>false
abbrev WC (avi:Bp):Fs:=aw apR (amp avi)
def ali:FnSh:=⟨[.rp [.bool,.roi .u32,.bool,.roi .u32] 0],[]⟩
def agD (az_:HG):SPT
 | [.bool z_0,.ints z_1,.bool z_2,.ints z_3],c_=>az_ z_0 z_1 z_2 z_3 (λr0=>c_ (vwi r0) [])
 | _,_=>false
abbrev Y5 (az_:HG):Fs:=aw ali (agD az_)
def aqt:FnSh:=⟨[.rp [.bool,.roi .u32,.bool,.roi .u32] 0],[]⟩
def am5 (avQ:HG):SPT
 | [.bool r_0,.ints r_1,.bool r_2,.ints r_3],c_=>avQ r_0 r_1 r_2 r_3 (λr0=>c_ (vwi r0) [])
 | _,_=>false
abbrev ahh (avQ:HG):Fs:=aw aqt (am5 avQ)
def apS:FnSh:=⟨[.ptr 0 0],[some (153,1,.cells [.bool,.roi .u32,.bool,.roi .u32])]⟩
def agI (awP:wj):SPT
 | [.bool b,.ints b_1,.bool b_2,.ints b_3],c_=>awP b b_1 b_2 b_3 (λr0=>c_ (vws r0) [⟨153,1,.cells [.bool b,vws b_1,.bool b_2,vws b_3]⟩])
 | _,_=>false
abbrev QN (awP:wj):Fs:=aw apS (agI awP)
theorem da (awP:wj):FrF 2 (QN awP):=by
 refine FX λa k h=>?_
 unfold agI at h ⊢;split at h
 ·rename_i p_b ay4 aC9 aFA;refine⟨[⟨153,1,.cells [.bool p_b,vws ay4,.bool aC9,vws aFA]⟩],rfl,?_⟩;simp only[vq,vt,decide_true,Bool.and_true];exact h
 ·cases h
def apJ:FnSh:=⟨[.ptr 0 0,.ptr 1 0,.ptr 2 0],[some (153,1,.cells [.bool,.nil,.bool,.nil]),some (153,1,.cells [.bool,.roi .u32,.bool,.roi .u32]),some (153,1,.cells [.bool,.roi .u32,.bool,.roi .u32])]⟩
def amh (avZ:HX):SPT
 | [.bool b,.bool b_1,.bool b_2,.ints b_3,.bool b_4,.ints b_5,.bool b_6,.ints b_7,.bool b_8,.ints b_9],c_=>avZ b b_1 b_2 b_3 b_4 b_5 b_6 b_7 b_8 b_9 (λr0 r1 r2 r3=>c_ (.ptr 0 0) [⟨153,1,.cells [.bool r0,vws r1,.bool r2,vws r3]⟩,⟨153,1,.cells [.bool b_2,vws b_3,.bool b_4,vws b_5]⟩,⟨153,1,.cells [.bool b_6,vws b_7,.bool b_8,vws b_9]⟩])
 | _,_=>false
abbrev agW (avZ:HX):Fs:=aw apJ (amh avZ)
def ap2:FnSh:=⟨[.ptr 0 0,.ptr 1 0,.ptr 2 0],[some (153,1,.cells [.bool,.nil,.bool,.nil]),some (153,1,.cells [.bool,.roi .u32,.bool,.roi .u32]),some (153,1,.cells [.bool,.roi .u32,.bool,.roi .u32])]⟩
def amA (axr:HX):SPT
 | [.bool b,.bool b_1,.bool b_2,.ints b_3,.bool b_4,.ints b_5,.bool b_6,.ints b_7,.bool b_8,.ints b_9],c_=>axr b b_1 b_2 b_3 b_4 b_5 b_6 b_7 b_8 b_9 (λr0 r1 r2 r3=>c_ (.ptr 0 0) [⟨153,1,.cells [.bool r0,vws r1,.bool r2,vws r3]⟩,⟨153,1,.cells [.bool b_2,vws b_3,.bool b_4,vws b_5]⟩,⟨153,1,.cells [.bool b_6,vws b_7,.bool b_8,vws b_9]⟩])
 | _,_=>false
abbrev ag4 (axr:HX):Fs:=aw ap2 (amA axr)
def aj_:FnSh:=⟨[.ptr 0 0,.ptr 1 0],[some (153,1,.cells [.bool,.roi .u32,.bool,.roi .u32]),some (153,1,.cells [.bool,.roi .u32,.bool,.roi .u32])]⟩
def afw (azA:Hn):SPT
 | [.bool b,.ints b_1,.bool b_2,.ints b_3,.bool b_4,.ints b_5,.bool b_6,.ints b_7],c_=>azA b b_1 b_2 b_3 b_4 b_5 b_6 b_7 (λr9 r11=>c_ (.tup [.ptr 2 0,.ptr 3 0]) [⟨153,1,.cells [.bool b,vws b_1,.bool b_2,vws b_3]⟩,⟨153,1,.cells [.bool b_4,vws b_5,.bool b_6,vws b_7]⟩,⟨151,1,.cells [.bool b,vws r9]⟩,⟨151,1,.cells [.bool b_4,vws r11]⟩])
 | _,_=>false
abbrev Yt (azA:Hn):Fs:=aw aj_ (afw azA)
def ald:FnSh:=⟨[.roi .u32,.roi .u32],[]⟩
def agy (az7:B8):SPT
 | [.ints a,.ints b],c_=>az7 a b (λr0=>c_ (vws r0) [])
 | _,_=>false
abbrev Y2 (az7:B8):Fs:=aw ald (agy az7)
def akm:FnSh:=⟨[.ptr 0 0,.ptr 1 0,.ptr 2 0,.bool],[some (151,1,.cells [.bool,.nil]),some (151,1,.cells [.bool,.roi .u32]),some (151,1,.cells [.bool,.roi .u32])]⟩
def afJ (azH:Hu):SPT
 | [.bool turn,.bool b,.bool b_1,.ints b_2,.bool b_3,.ints b_4],c_=>azH turn b b_1 b_2 b_3 b_4 (λr0 r1=>c_ (.ptr 0 0) [⟨151,1,.cells [.bool r0,vws r1]⟩,⟨151,1,.cells [.bool b_1,vws b_2]⟩,⟨151,1,.cells [.bool b_3,vws b_4]⟩])
 | _,_=>false
abbrev YA (azH:Hu):Fs:=aw akm (afJ azH)
def akl:FnSh:=⟨[.ptr 0 0,.ptr 1 0,.ptr 2 0],[some (151,1,.cells [.bool,.nil]),some (151,1,.cells [.bool,.roi .u32]),some (151,1,.cells [.bool,.roi .u32])]⟩
def afI (azG:Ht):SPT
 | [.bool b,.bool b_1,.ints b_2,.bool b_3,.ints b_4],c_=>azG b b_1 b_2 b_3 b_4 (λr0 r1=>c_ (.ptr 0 0) [⟨151,1,.cells [.bool r0,vws r1]⟩,⟨151,1,.cells [.bool b_1,vws b_2]⟩,⟨151,1,.cells [.bool b_3,vws b_4]⟩])
 | _,_=>false
abbrev Yz (azG:Ht):Fs:=aw akl (afI azG)
def Wd:FnSh:=⟨[.ptr 0 0,.bool,.roi .u32],[some (153,1,.cells [.bool,.roi .u32,.bool,.roi .u32])]⟩
def ae8 (avB:zh):SPT
 | [.bool neg,.ints m,.bool b,.ints b_1,.bool b_2,.ints b_3],c_=>avB neg m b b_1 b_2 b_3 (λr0 r1=>c_ (.ptr 0 0) [⟨153,1,.cells [.bool r0,vws r1,.bool b_2,vws b_3]⟩])
 | _,_=>false
abbrev TG (avB:zh):Fs:=aw Wd (ae8 avB)
def Ed:FnSh:=⟨[.ptr 0 0,.bool,.roi .u32,.roi .u32],[some (153,1,.cells [.bool,.roi .u32,.bool,.roi .u32])]⟩
def To (azv:Hi):SPT
 | [.bool neg,.ints a,.ints b,.bool b_1,.ints b_2,.bool b_3,.ints b_4],c_=>azv neg a b b_1 b_2 b_3 b_4 (λr0 r1 r2 r3=>c_ (.ptr 0 0) [⟨153,1,.cells [.bool r0,vws r1,.bool r2,vws r3]⟩])
 | _,_=>false
abbrev Yo (azv:Hi):Fs:=aw Ed (To azv)
def ap7:FnSh:=⟨[.ptr 0 0,.ptr 0 0,.ptr 1 0],[some (153,1,.cells [.bool,.roi .u32,.bool,.roi .u32]),some (153,1,.cells [.bool,.roi .u32,.bool,.roi .u32])]⟩
def amF (axs:ba):SPT
 | [.bool b,.ints b_1,.bool b_2,.ints b_3,.bool b_4,.ints b_5,.bool b_6,.ints b_7],c_=>axs b b_1 b_2 b_3 b_4 b_5 b_6 b_7 (λr0 r1 r2 r3=>c_ (.ptr 0 0) [⟨153,1,.cells [.bool r0,vws r1,.bool r2,vws r3]⟩,⟨153,1,.cells [.bool b_4,vws b_5,.bool b_6,vws b_7]⟩])
 | _,_=>false
abbrev ag7 (axs:ba):Fs:=aw ap7 (amF axs)
def apP:FnSh:=⟨[.agg [.int .i64,.int .i64,.slw 0],.int .i64,.int .i64,.ptr 1 0],[some (146,1,.own 153 RT2),some (153,1,.cells [.bool,.roi .u32,.bool,.roi .u32])]⟩
def amn (av0:H8):SPT
 | [.int m_0,.int m_1,.int i,.int k_,.recs t4_ b,.bool b_1,.ints b_2,.bool b_3,.ints b_4],c_=>RT.cast RT2 t4_ b (λb=>av0 m_0 m_1 i k_ b b_1 b_2 b_3 b_4 (λr0=>c_ (.tup []) [⟨146,1,.own 153 RT2 r0 []⟩,⟨153,1,.cells [.bool b_1,vws b_2,.bool b_3,vws b_4]⟩])) false
 | _,_=>false
abbrev agX (av0:H8):Fs:=aw apP (amn av0)
def akn:FnSh:=⟨[.agg [.int .i64,.int .i64,.rl RT3]],[]⟩
def afK (azI:Hv):SPT
 | [.int m_0,.int m_1,.recs t2_ m_2],c_=>RT.cast RT3 t2_ m_2 (λm_2=>azI m_0 m_1 m_2 (λr0=>c_ (vwi r0) [])) false
 | _,_=>false
abbrev YB (azI:Hv):Fs:=aw akn (afK azI)
def akt:FnSh:=⟨[.agg [.int .i64,.int .i64,.rof]],[]⟩
def afQ (axZ:FB):SPT
 | [.int m_0,.int m_1,.fls m_2],c_=>axZ m_0 m_1 m_2 (λr0=>c_ (.bool r0) [])
 | _,_=>false
abbrev T0 (axZ:FB):Fs:=aw akt (afQ axZ)
def apG:FnSh:=⟨[.agg [.rof,.int .i64,.int .i64,.rof]],[]⟩
def ame (awo:jk):SPT
 | [.fls s_0,.int s_1,.int s_2,.fls s_3],c_=>awo s_0 s_1 s_2 s_3 (λr0=>c_ (vwi r0) [])
 | _,_=>false
abbrev agU (awo:jk):Fs:=aw apG (ame awo)
def apK:FnSh:=⟨[.ptr 0 0,.flt],[some (89,1,.cells [.bool])]⟩
def ami (au2:sf):SPT
 | [.fl x,.bool b],c_=>au2 x b (λr1=>c_ (.flt x) [⟨89,1,.cells [.bool r1]⟩])
 | _,_=>false
abbrev Ez (au2:sf):Fs:=aw apK (ami au2)
def asV:FnSh:=⟨[.flt,.flt],[]⟩
def as1 (SQ3:EL):SPT
 | [.fl a,.fl b],c_=>SQ3 a b (λr0=>c_ (.bool r0) [])
 | _,_=>false
abbrev FQ3 (SQ3:EL):Fs:=aw asV (as1 SQ3)
def J4:FnSh:=⟨[.agg [.int .i64,.int .i64,.rof],.int .i64],[]⟩
def BH (aue:eC):SPT
 | [.int m_0,.int m_1,.fls m_2,.int i],c_=>aue m_0 m_1 m_2 i (λr0=>c_ (.rof r0) [])
 | _,_=>false
abbrev kt (aue:eC):Fs:=aw J4 (BH aue)
def X6:FnSh:=⟨[.flt],[]⟩
def J_ (axI:zj):SPT
 | [.fl x],c_=>axI x (λr0=>c_ (.flt r0) [])
 | _,_=>false
abbrev Mk (axI:zj):Fs:=aw X6 (J_ axI)
def akG:FnSh:=⟨[.flt,.int .i64],[]⟩
def af3 (azQ:HD):SPT
 | [.fl f,.int sign],c_=>azQ f sign (λr0=>c_ (.bool r0) [])
 | _,_=>false
abbrev Ua (azQ:HD):Fs:=aw akG (af3 azQ)
def w9:FnSh:=⟨[.agg [.int .i64,.int .i64,.slw 0],.int .i64],[some (33,1,.flts)]⟩
def yB (avR:kS):SPT
 | [.int m_0,.int m_1,.int i,.fls b],c_=>avR m_0 m_1 i b (λr0 r1=>c_ (.sl 0 r0 r1) [⟨33,1,.flts b⟩])
 | _,_=>false
abbrev tF (avR:kS):Fs:=aw w9 (yB avR)
def J3:FnSh:=⟨[.agg [.int .i64,.int .i64,.rof],.int .i64],[]⟩
def BG (auq:eC):SPT
 | [.int m_0,.int m_1,.fls m_2,.int j],c_=>auq m_0 m_1 m_2 j (λr0=>c_ (.slw 0) [⟨33,1,.flts r0⟩])
 | _,_=>false
abbrev sr (auq:eC):Fs:=aw J3 (BG auq)
def al6:FnSh:=⟨[],[]⟩
def aqA (SQ0:QU):SPT
 | [],c_=>SQ0 (λr0=>c_ (.bool r0) [])
 | _,_=>false
abbrev FQ0 (SQ0:QU):Fs:=aw al6 (aqA SQ0)
def aj3:FnSh:=⟨[.agg [.int .i64,.int .i64,.rof],.int .i64],[]⟩
def afo (avx:BR):SPT
 | [.int f_0,.int f_1,.fls f_2,.int rows],c_=>avx f_0 f_1 f_2 rows (λr0=>c_ (vwi r0) [])
 | _,_=>false
abbrev TQ (avx:BR):Fs:=aw aj3 (afo avx)
def We:FnSh:=⟨[.agg [.int .i64,.int .i64,.rof],.int .i64],[]⟩
def aff (auV:eC):SPT
 | [.int m_0,.int m_1,.fls m_2,.int i],c_=>auV m_0 m_1 m_2 i (λr0=>c_ (.rof r0) [])
 | _,_=>false
abbrev KO (auV:eC):Fs:=aw We (aff auV)
def ae3:FnSh:=⟨[.ptr 0 0,.rof,.rof],[some (89,1,.cells [.bool])]⟩
def am7 (aws:Il):SPT
 | [.fls a,.fls b,.bool b_1],c_=>aws a b b_1 (λr0 r1=>c_ (.flt r0) [⟨89,1,.cells [.bool r1]⟩])
 | _,_=>false
abbrev ahj (aws:Il):Fs:=aw ae3 (am7 aws)
def apC:FnSh:=⟨[.int .i64,.int .i64],[]⟩
def ama (au1:wc):SPT
 | [.int rows,.int cols],c_=>au1 rows cols (λr2=>c_ (.agg [vwi rows,vwi cols,.slw 0]) [⟨33,1,.flts r2⟩])
 | _,_=>false
abbrev NP (au1:wc):Fs:=aw apC (ama au1)
def akg:FnSh:=⟨[.agg [.int .i64,.int .i64,.rof],.int .i64],[]⟩
def afD (awf:eC):SPT
 | [.int m_0,.int m_1,.fls m_2,.int j],c_=>awf m_0 m_1 m_2 j (λr0=>c_ (.slw 0) [⟨33,1,.flts r0⟩])
 | _,_=>false
abbrev TY (awf:eC):Fs:=aw akg (afD awf)
def aqr:FnSh:=⟨[.ptr 0 0,.rof,.slw 1],[some (89,1,.cells [.bool]),some (33,1,.flts)]⟩
def am2 (aw7:K8):SPT
 | [.fls a,.bool b,.fls b_1],c_=>aw7 a b b_1 (λr0 r1=>c_ (.flt r0) [⟨89,1,.cells [.bool r1]⟩,⟨33,1,.flts b_1⟩])
 | _,_=>false
abbrev ahf (aw7:K8):Fs:=aw aqr (am2 aw7)
def apE:FnSh:=⟨[.agg [.int .i64,.int .i64,.slw 0],.int .i64,.int .i64,.flt],[some (33,1,.flts)]⟩
def amc (auZ:we):SPT
 | [.int m_0,.int m_1,.int i,.int j,.fl x,.fls b],c_=>auZ m_0 m_1 i j x b (λr0=>c_ (.tup []) [⟨33,1,.flts r0⟩])
 | _,_=>false
abbrev NQ (auZ:we):Fs:=aw apE (amc auZ)
def apQ:FnSh:=⟨[.agg [.int .i64,.int .i64,.rof],.agg [.int .i64,.int .i64,.rof],.ptr 0 0],[some (89,1,.cells [.bool])]⟩
def amo (awq:H9):SPT
 | [.int a_0,.int a_1,.fls a_2,.int b_0,.int b_1,.fls b_2,.bool b],c_=>awq a_0 a_1 a_2 b_0 b_1 b_2 b (λr2 r3=>c_ (.agg [vwi a_0,vwi b_1,.slw 1]) [⟨89,1,.cells [.bool r2]⟩,⟨33,1,.flts r3⟩])
 | _,_=>false
abbrev agY (awq:H9):Fs:=aw apQ (amo awq)
def ap9:FnSh:=⟨[.agg [.int .i64,.int .i64,.slw 0],.int .i64],[some (33,1,.flts)]⟩
def amI (awr:kS):SPT
 | [.int m_0,.int m_1,.int i,.fls b],c_=>awr m_0 m_1 i b (λr0 r1=>c_ (.sl 0 r0 r1) [⟨33,1,.flts b⟩])
 | _,_=>false
abbrev ag9 (awr:kS):Fs:=aw ap9 (amI awr)
def ajQ:FnSh:=⟨[.ptr 0 0,.sl 1,.rof],[some (89,1,.cells [.bool]),some (33,1,.flts)]⟩
def ae9 (avz:BL):SPT
 | [.nat a_0,.nat a_1,.fls b,.bool b_1,.fls b_2],c_=>avz a_0 a_1 b b_1 b_2 (λr0 r1=>c_ (.flt r0) [⟨89,1,.cells [.bool r1]⟩,⟨33,1,.flts b_2⟩])
 | _,_=>false
abbrev TH (avz:BL):Fs:=aw ajQ (ae9 avz)
def akQ:FnSh:=⟨[.agg [.int .i64,.int .i64,.rof]],[]⟩
def agc (azW:HL):SPT
 | [.int m_0,.int m_1,.fls m_2],c_=>azW m_0 m_1 m_2 (λr2=>c_ (.agg [vwi m_0,vwi m_1,.slw 0]) [⟨33,1,.flts r2⟩])
 | _,_=>false
abbrev YP (azW:HL):Fs:=aw akQ (agc azW)
def apI:FnSh:=⟨[.slw 0,.agg [.int .i64,.int .i64,.slw 1],.ptr 2 0],[some (33,1,.flts),some (33,1,.flts),some (89,1,.cells [.bool])]⟩
def amg (awp:HP):SPT
 | [.int p_0,.int p_1,.fls b,.fls b_1,.bool b_2],c_=>awp p_0 p_1 b b_1 b_2 (λr0 r1 r2=>c_ (.tup [.agg [.nil,vwi r0,vwi r1,.nil],vwi r2]) [⟨33,1,.flts b⟩,⟨33,1,.flts b_1⟩,⟨89,1,.cells [.bool b_2]⟩]) (λr2 r6=>c_ (.tup [.agg [.slw 0,vwi p_0,vwi p_1,.slw 3],vwi r2]) [⟨33,1,.flts b⟩,⟨33,1,.flts b_1⟩,⟨89,1,.cells [.bool b_2]⟩,⟨33,1,.flts r6⟩])
 | _,_=>false
abbrev agV (awp:HP):Fs:=aw apI (amg awp)
def Wj:FnSh:=⟨[.agg [.rof,.int .i64,.int .i64,.rof],.agg [.int .i64,.int .i64,.rof],.agg [.int .i64,.int .i64,.rof]],[]⟩
def Tv (axo:EF):SPT
 | [.fls t_0,.int t_1,.int t_2,.fls t_3,.int f_0,.int f_1,.fls f_2,.int q_0,.int q_1,.fls q_2],c_=>axo t_0 t_1 t_2 t_3 f_0 f_1 f_2 q_0 q_1 q_2 (λr0 r1 r2=>c_ (.tup [.agg [.nil,vwi r0,vwi r1,.nil],vwi r2]) []) (λr0 r1 r2 r3 r4=>c_ (.tup [.agg [.slw 0,vwi r0,vwi r1,.slw 1],vwi r2]) [⟨33,1,.flts r3⟩,⟨33,1,.flts r4⟩])
 | _,_=>false
abbrev T3 (axo:EF):Fs:=aw Wj (Tv axo)
def Ek:FnSh:=⟨[.agg [.int .i64,.int .i64,.rof],.int .i64],[]⟩
def w_ (aus:BR):SPT
 | [.int m_0,.int m_1,.fls m_2,.int n],c_=>aus m_0 m_1 m_2 n (λr0=>c_ (vwi r0) [])
 | _,_=>false
abbrev nJ (aus:BR):Fs:=aw Ek (w_ aus)
def aqx:FnSh:=⟨[.ptr 0 0,.flt],[some (83,1,.cells [.bool])]⟩
def agN (avg:sf):SPT
 | [.fl x,.bool b],c_=>avg x b (λr1=>c_ (.flt x) [⟨83,1,.cells [.bool r1]⟩])
 | _,_=>false
abbrev G7 (avg:sf):Fs:=aw aqx (agN avg)
theorem gF (avg:sf):FrF 1 (G7 avg):=by
 refine FX λa k h=>?_
 unfold agN at h ⊢;split at h
 ·rename_i p_x p_b;refine⟨[⟨83,1,.cells [.bool p_b]⟩],rfl,?_⟩;simp only[vq,vt,decide_true,Bool.and_true];exact h
 ·cases h
def ajP:FnSh:=⟨[.ptr 0 0,.flt,.flt],[some (83,1,.cells [.bool])]⟩
def Tn (auW:pT):SPT
 | [.fl a,.fl b,.bool b_1],c_=>auW a b b_1 (λr0 r1=>c_ (.flt r0) [⟨83,1,.cells [.bool r1]⟩])
 | _,_=>false
abbrev C8 (auW:pT):Fs:=aw ajP (Tn auW)
theorem kz (auW:pT):FrF 1 (C8 auW):=by
 refine FX λa k h=>?_
 unfold Tn at h ⊢;split at h
 ·rename_i p_a p_b ay4;refine⟨[⟨83,1,.cells [.bool ay4]⟩],rfl,?_⟩;simp only[vq,vt,decide_true,Bool.and_true];exact h
 ·cases h
def Wl:FnSh:=⟨[.ptr 0 0,.rof,.rof],[some (83,1,.cells [.bool])]⟩
def Np (awA:Il):SPT
 | [.fls a,.fls b,.bool b_1],c_=>awA a b b_1 (λr0 r1=>c_ (.flt r0) [⟨83,1,.cells [.bool r1]⟩])
 | _,_=>false
abbrev NV (awA:Il):Fs:=aw Wl (Np awA)
theorem xB (awA:Il):FrF 1 (NV awA):=by
 refine FX λa k h=>?_
 unfold Np at h ⊢;split at h
 ·rename_i p_a p_b ay4;refine⟨[⟨83,1,.cells [.bool ay4]⟩],rfl,?_⟩;simp only[vq,vt,decide_true,Bool.and_true];exact h
 ·cases h
def Wh:FnSh:=⟨[.ptr 0 0,.rof,.slw 1],[some (83,1,.cells [.bool]),some (33,1,.flts)]⟩
def Nm (avV:K8):SPT
 | [.fls a,.bool b,.fls b_1],c_=>avV a b b_1 (λr0 r1=>c_ (.flt r0) [⟨83,1,.cells [.bool r1]⟩,⟨33,1,.flts b_1⟩])
 | _,_=>false
abbrev NO (avV:K8):Fs:=aw Wh (Nm avV)
theorem vG (avV:K8):FrF 1 (NO avV):=by
 refine FX λa k h=>?_
 unfold Nm at h ⊢;split at h
 ·rename_i p_a p_b ay4;refine⟨[⟨83,1,.cells [.bool p_b]⟩,⟨33,1,.flts ay4⟩],rfl,?_⟩;simp only[vq,vt,decide_true,Bool.and_true];exact h
 ·cases h
def pP:FnSh:=⟨[.ptr 0 0,.agg [.int .i64,.int .i64,.rof],.agg [.int .i64,.int .i64,.rof]],[some (83,1,.cells [.bool])]⟩
def mc (aun:H9):SPT
 | [.int a_0,.int a_1,.fls a_2,.int b_0,.int b_1,.fls b_2,.bool b],c_=>aun a_0 a_1 a_2 b_0 b_1 b_2 b (λr2 r3=>c_ (.agg [vwi a_0,vwi b_1,.slw 1]) [⟨83,1,.cells [.bool r2]⟩,⟨33,1,.flts r3⟩])
 | _,_=>false
abbrev jK (aun:H9):Fs:=aw pP (mc aun)
def Wm:FnSh:=⟨[.ptr 0 0,.sl 1,.rof],[some (83,1,.cells [.bool]),some (33,1,.flts)]⟩
def Nq (ayk:BL):SPT
 | [.nat a_0,.nat a_1,.fls b,.bool b_1,.fls b_2],c_=>ayk a_0 a_1 b b_1 b_2 (λr0 r1=>c_ (.flt r0) [⟨83,1,.cells [.bool r1]⟩,⟨33,1,.flts b_2⟩])
 | _,_=>false
abbrev T9 (ayk:BL):Fs:=aw Wm (Nq ayk)
theorem vF (ayk:BL):FrF 1 (T9 ayk):=by
 refine FX λa k h=>?_
 unfold Nq at h ⊢;split at h
 ·rename_i aGu aGv p_b ay4 aC9;refine⟨[⟨83,1,.cells [.bool ay4]⟩,⟨33,1,.flts aC9⟩],rfl,?_⟩;simp only[vq,vt,decide_true,Bool.and_true];exact h
 ·cases h
def mF:FnSh:=⟨[.int .i64,.int .i64,.ptr 0 0,.ptr 1 0,.ptr 2 0,.ptr 3 0,.ptr 4 0],[some (108,1,.cells [.ptr 5 0]),some (28,1,.cells [.int .i64,.int .i64,.slw 6]),some (28,1,.cells [.int .i64,.int .i64,.rof]),some (28,1,.cells [.int .i64,.int .i64,.rof]),some (3,1,.cells [.int .i64]),some (83,1,.cells [.bool]),some (33,1,.flts)]⟩
def iz (aua:aV):SPT
 | [.int i,.int j,.int b,.int b_1,.int b_2,.int b_3,.fls b_4,.int b_5,.int b_6,.fls b_7,.int b_8,.bool b_9,.fls aym],c_=>aua i j b b_1 b_2 b_3 b_4 b_5 b_6 b_7 b_8 b_9 aym (λr0 r10=>c_ (.flt r0) [⟨108,1,.cells [.ptr 5 0]⟩,⟨28,1,.cells [vwi b,vwi b_1,.slw 6]⟩,⟨28,1,.cells [vwi b_2,vwi b_3,.rof b_4]⟩,⟨28,1,.cells [vwi b_5,vwi b_6,.rof b_7]⟩,⟨3,1,.cells [vwi b_8]⟩,⟨83,1,.cells [.bool r10]⟩,⟨33,1,.flts aym⟩])
 | _,_=>false
abbrev cC (aua:aV):Fs:=aw mF (iz aua)
def s_:FnSh:=⟨[.int .i64,.fn 63 [.ptr 0 0,.ptr 1 0,.ptr 2 0,.ptr 3 0,.ptr 4 0]],[some (108,1,.cells [.ptr 5 0]),some (28,1,.cells [.int .i64,.int .i64,.slw 6]),some (28,1,.cells [.int .i64,.int .i64,.rof]),some (28,1,.cells [.int .i64,.int .i64,.rof]),some (3,1,.cells [.int .i64]),some (83,1,.cells [.bool]),some (33,1,.flts)]⟩
def mb (auh:cw):SPT
 | [.int n,.int b,.int b_1,.int b_2,.int b_3,.fls b_4,.int b_5,.int b_6,.fls b_7,.int b_8,.bool b_9,.fls aym],c_=>auh n b b_1 b_2 b_3 b_4 b_5 b_6 b_7 b_8 b_9 aym (λr11 r13=>c_ (.agg [vwi n,vwi n,.slw 7]) [⟨108,1,.cells [.ptr 5 0]⟩,⟨28,1,.cells [vwi b,vwi b_1,.slw 6]⟩,⟨28,1,.cells [vwi b_2,vwi b_3,.rof b_4]⟩,⟨28,1,.cells [vwi b_5,vwi b_6,.rof b_7]⟩,⟨3,1,.cells [vwi b_8]⟩,⟨83,1,.cells [.bool r11]⟩,⟨33,1,.flts aym⟩,⟨33,1,.flts r13⟩])
 | _,_=>false
abbrev gp (auh:cw):Fs:=aw s_ (mb auh)
def akT:FnSh:=⟨[.ptr 0 0],[some (83,1,.cells [.bool])]⟩
def Tx (ayl:EK):SPT
 | [.bool b],c_=>ayl b (c_ (.bool b) [⟨83,1,.cells [.bool b]⟩])
 | _,_=>false
abbrev Uf (ayl:EK):Fs:=aw akT (Tx ayl)
theorem wC (ayl:EK):FrF 2 (Uf ayl):=by
 refine FX λa k h=>?_
 unfold Tx at h ⊢;split at h
 ·rename_i p_b;refine⟨[⟨83,1,.cells [.bool p_b]⟩],rfl,?_⟩;simp only[vq,vt,decide_true,Bool.and_true];exact h
 ·cases h
def vZ:FnSh:=⟨[.ptr 0 0,.slw 1,.agg [.int .i64,.int .i64,.slw 2]],[some (83,1,.cells [.bool]),some (33,1,.flts),some (33,1,.flts)]⟩
def od (auk:dh):SPT
 | [.int p_0,.int p_1,.bool b,.fls b_1,.fls b_2],c_=>auk p_0 p_1 b b_1 b_2 (λr0 r1 r2=>c_ (.tup [.agg [.nil,vwi r0,vwi r1,.nil],vwi r2]) [⟨83,1,.cells [.bool b]⟩,⟨33,1,.flts b_1⟩,⟨33,1,.flts b_2⟩]) (λr2=>c_ (.tup [.agg [.slw 1,vwi p_0,vwi p_1,.slw 2],vwi r2]) [⟨83,1,.cells [.bool b]⟩,⟨33,1,.flts b_1⟩,⟨33,1,.flts b_2⟩])
 | _,_=>false
abbrev iC (auk:dh):Fs:=aw vZ (od auk)
def uw:FnSh:=⟨[.agg [.rof,.int .i64,.int .i64,.rof],.agg [.int .i64,.int .i64,.rof],.agg [.int .i64,.int .i64,.rof]],[]⟩
def o5 (auE:EF):SPT
 | [.fls s_0,.int s_1,.int s_2,.fls s_3,.int f_0,.int f_1,.fls f_2,.int q_0,.int q_1,.fls q_2],c_=>auE s_0 s_1 s_2 s_3 f_0 f_1 f_2 q_0 q_1 q_2 (λr0 r1 r2=>c_ (.tup [.agg [.nil,vwi r0,vwi r1,.nil],vwi r2]) []) (λr0 r1 r2 r3 r4=>c_ (.tup [.agg [.slw 0,vwi r0,vwi r1,.slw 1],vwi r2]) [⟨33,1,.flts r3⟩,⟨33,1,.flts r4⟩])
 | _,_=>false
abbrev ml (auE:EF):Fs:=aw uw (o5 auE)
def ae1:FnSh:=⟨[.slw 0],[some (26,1,.cells [.slw 1,.slw 2,.slw 3,.slw 4]),some (33,1,.flts),some (33,1,.flts),some (33,1,.flts),some (33,1,.flts)]⟩
def agH (ax9:K3):SPT
 | [.fls b,.fls b_1,.fls b_2,.fls b_3],c_=>ax9 b b_1 b_2 b_3 (λr0 r1 r2 r3=>c_ (.tup []) [⟨26,1,.cells [.slw 1,.slw 2,.slw 3,.slw 4]⟩,⟨33,1,.flts r0⟩,⟨33,1,.flts r1⟩,⟨33,1,.flts r2⟩,⟨33,1,.flts r3⟩])
 | _,_=>false
abbrev agZ (ax9:K3):Fs:=aw ae1 (agH ax9)
def aqp:FnSh:=⟨[.rof,.rof],[]⟩
def am0 (aA1:Oe):SPT
 | [.fls a,.fls b],c_=>aA1 a b (λr0=>c_ (.bool r0) [])
 | _,_=>false
abbrev anh (aA1:Oe):Fs:=aw aqp (am0 aA1)
def asX:FnSh:=⟨[.agg [.rof,.int .i64,.int .i64,.rof],.agg [.rof,.int .i64,.int .i64,.rof]],[]⟩
def as3 (SQ7:Q0):SPT
 | [.fls a_0,.int a_1,.int a_2,.fls a_3,.fls b_0,.int b_1,.int b_2,.fls b_3],c_=>SQ7 a_0 a_1 a_2 a_3 b_0 b_1 b_2 b_3 (λr0=>c_ (.bool r0) [])
 | _,_=>false
abbrev FQ7 (SQ7:Q0):Fs:=aw asX (as3 SQ7)
def Nh:FnSh:=⟨[.roi .u64,.int .i64,.roi .u64,.roi .u64,.roi .u64,.int .i64],[]⟩
theorem abD (w:World) (v:Value):Calls Tryz.prog 116 #[.nilIface,v] w λe w'=>e=.returned v/\w'=w:=
 ahC (P:=Tryz.prog) (fc:=116) (fn:=Tryz.f116) (by kernel_rfl) (by kernel_rfl) (by kernel_rfl) rfl rfl rfl rfl rfl rfl rfl rfl rfl rfl rfl rfl rfl rfl rfl rfl rfl rfl rfl (λ_=>rfl) (λ_=>by kernel_rfl) w v
theorem aqR:GZ Tryz.prog 115:=
 abu (P:=Tryz.prog) (g:=115) (fc:=116) (fg:=Tryz.f115) (ff:=Tryz.f116) (by kernel_rfl) (by kernel_rfl) (by kernel_rfl) (by kernel_rfl) rfl (by kernel_rfl) (by kernel_rfl) (by kernel_rfl) (by kernel_rfl) (by kernel_rfl) rfl rfl rfl rfl rfl rfl rfl rfl rfl rfl rfl (by kernel_rfl) (by kernel_rfl) abD
theorem hD_:∀ g,g<1000000->av (2000000+g)=true->GZ Tryz.prog g:=by
 intro g hg h;have e:g=115:=by unfold av at h; simp at h; omega
 rcases e with rfl
 exact aqR
end Go.Proofs.YteifemaagdeomaaGreatDoor
end
