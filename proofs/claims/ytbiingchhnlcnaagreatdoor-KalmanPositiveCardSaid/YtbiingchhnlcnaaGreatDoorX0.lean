/- Laws in plain Lean. Conditions: none. -/
import Derived.Test.YtbiingchhnlcnaaGreatDoorC1
import Derived.Test.YtbiingchhnlcnaaGreatDoorGp
import Derived.Test.YtbiingchhnlcnaaGreatDoorC13
set_option linter.defProp false
set_option linter.unusedVariables false
section
namespace Go.Proofs.YtbiingchhnlcnaaGreatDoor
open Go Go.Mach Ieee
def Nl (N:Nat) (a b:Nat) (k:Kz4):sQ9 N a b k=k (decide (cn (some a)=cn (some b))):=by unfold sQ9 GQ9;simp only[D0,uR,C_,CC];rw[<- MH a b (.inr trivial)];rfl
end Go.Proofs.YtbiingchhnlcnaaGreatDoor
end
section
namespace Go.Proofs.YtbiingchhnlcnaaGreatDoor
open Go Go.Mach Ieee
set_option maxRecDepth 100000
def Kk {N:Nat} (hN:1000<=N) (k:Kz4):PP N k=k true:=by
 obtain⟨M,rfl⟩:∃ M,N=M+1000:=⟨N - 1000,by omega⟩
 kernel_rfl
def Qn {N:Nat} (hN:1000<=N) (k:Ky5):nW N 1 k=k false (aj 1):=AP (N:=N) 1 (by decide) (pG hN (by decide)) (by omega) k
def WX (a b:Nat):flt (some a) (some b)=((Ieee.double.read a).order (Ieee.double.read b)==some .lt):=rfl
def Qk (a b:Nat):feq (some a) (some b)=((Ieee.double.read a).order (Ieee.double.read b)==some .eq):=rfl
def UC (a b:Nat):fgt (some a) (some b)=((Ieee.double.read a).order (Ieee.double.read b)==some .gt):=rfl
def Mp {b:Nat} (hb:W64 b) {s:Bool} {m:Nat} {i:Int} (h:Ieee.double.read b=.number s m i):∃ c,BK (some b)=some c/\W64 c/\Ieee.double.read c=.number false m i:=by
 have e:Ieee.double.read (b%9223372036854775808)=.number false m i:=by
  obtain⟨hs,hlt,h⟩:=nh h;unfold Format.read;simp only[i7,sO,mA,w_];have e1:b%9223372036854775808%9223372036854775808=b%9223372036854775808:=by omega
  have e2:(b%9223372036854775808 / 9223372036854775808%2==1)=false:=by rw[beq_eq_false_iff_ne]; omega
  rw[e1,e2];rcases h with⟨h1,rfl,rfl⟩ | ⟨h1,rfl,rfl⟩
  ·rw[if_pos h1]
  ·rw[if_neg (by omega),if_pos hlt]
 have hn:isNaN (b%9223372036854775808)=false:=by unfold isNaN; rw[e]; rfl
 refine⟨b%9223372036854775808,?_,by unfold W64 at *; omega,e⟩;show gw _=_;unfold gw; rw[hn]; rfl
def BQ (N:Nat) {x:Fl} (hx:be x=true) (hw:FW x) (k:Kz4):i6 N x 0 k=k false:=by
 obtain⟨b,s,m,i,rfl,h⟩:=qf hx;obtain⟨c,hc,hcw,hcr⟩:=Mp (hw b rfl) h;have hp:=qu hcr;have hg:=Ga hcr
 (unfold i6; rw[ae]; unfold uj)
 show k (fgt (BK (some b)) (some 9218868437227405311))=_;rw[hc];congr 1;have hr:Ieee.double.read 9218868437227405311=.number false 9007199254740991 971:=by decide
 rw[UC,hcr,hr];simp only[Datum.order];have hmin:min i 971=i:=by omega
 have e0:(i - i).toNat=0:=by omega
 rw[hmin,e0];have s1:signed false m 0=((m:Nat):Int):=rfl;have s2:signed false 9007199254740991 (971 - i).toNat=((9007199254740991 <<< (971 - i).toNat:Nat):Int):=rfl;rw[s1,s2,Nat.shiftLeft_eq];have hpw:0<2 ^ (971 - i).toNat:=aiI _;have hle:9007199254740991<=9007199254740991*2 ^ (971 - i).toNat:=ajg _ hpw;generalize 9007199254740991*2 ^ (971 - i).toNat=q at hle;have:compare (m:Int) (q:Int) ≠ .gt:=λe=>by have:=Int.compare_eq_gt.1 e; omega
 cases e:compare (m:Int) (q:Int)with
 | gt=>exact absurd e this
 | eq=>rfl
 | lt=>rfl
def Lg (d:Datum):W64 (Ieee.double.write d):=by
 cases d with
 | number s m i=>exact F4 s m i
 | infinity s=>
  have:Ieee.double.write (.infinity s)=Ieee.double.word s 9218868437227405312:=by rw[<- mA]; rfl
  rw[this]; exact BE s (by decide)
 | nan s f=>
  have:Ieee.double.write (.nan s f)=Ieee.double.word s (9218868437227405312+f%4503599627370496):=by rw[<- mA,<- sO]; rfl
  rw[this]; exact BE s (by omega)
def zI {o:Option Datum}:FW (o.map Ieee.double.write):=by
 intro b hb;cases o with
 | none=>cases hb
 | some d=>cases hb; exact Lg d
def C7 {f:Nat->Nat->Option Nat} (hf:∀ a b c,f a b=some c->W64 c) (x y:Fl):FW (Fc f x y):=by
 intro c hc;cases x with
 | none=>cases hc
 | some a=>cases y with
  | none=>cases hc
  | some b=>exact hf a b c hc
def kQ (x y:Fl):FW (ep x y):=C7 (λa b c h=>zI c h) x y
def ui (x y:Fl):FW (iS x y):=C7 (λa b c h=>zI c h) x y
def C9 (x y:Fl):FW (aF x y):=C7 (λa b c h=>zI c h) x y
def C8 (x y:Fl):FW (fdiv x y):=C7 (λa b c h=>zI c h) x y
def UJ (xs:List Fl):Nat->Fl
 | 0=>some 0
 | n+1=>fmm true (UJ xs n) (BK (xs.getD n none))
def GE1 (x:Fl):Prop:=∃ b,x=some b/\W64 b/\(Ieee.double.read b=.infinity false \/ ∃ m i,Ieee.double.read b=.number false m i/\4503599627370496<=m/\m<9007199254740992 /\ -52<=i)
def Dv (x:Fl):Prop:=∃ b,x=some b/\(Ieee.double.read b=.infinity false \/ ∃ m i,Ieee.double.read b=.number false m i/\m ≠ 0)
def WY (a b c:Fl):Int:=cond (!bb [a,b,c]) 4 (cond (feq a (some 0)&&(feq b (some 0)&&feq c (some 0))) 251 0)
def WV (f g:K4->Bool):Prop:=∃ a b c d n,(a.isSome=true/\b.isSome=true/\c.isSome=true/\d.isSome=true)/\(∀ κ,f κ=κ a b c d n)/\(∀ κ,g κ=κ a b c d n)
set_option maxRecDepth 4000
def UK {a0 a1 a2 a3 a4 a5 a6 a7 a8:Fl} (h:bb [a0,a1,a2,a3,a4,a5,a6,a7,a8]=true):chk 3 3 [a0,a1,a2,a3,a4,a5,a6,a7,a8]=0:=sT.2 ⟨by decide,rfl,h⟩
set_option maxRecDepth 4000
def J4 {b:Nat} (hb:W64 b) {s:Bool} (h:Ieee.double.read b=.infinity s):BK (some b)=some 9218868437227405312:=by
 unfold Format.read at h;simp only[i7,sO,mA]at h;unfold W64 at hb;split at h
 ·cases h
 ·split at h
  ·cases h
  ·split at h
   ·rename_i h1 h2 h3;show gw (b%9223372036854775808)=_;have:b%9223372036854775808=9218868437227405312:=by omega
    rw[this]; decide
   ·cases h
def Di {N:Nat} {x:Fl} (hw:FW x) (o:Bool) (k:Kz4):cond ((!feq x x)==false) (i6 N x 0 (λcr=>cond cr (k true) (k o))) (k true)=k (o || !be x):=by
 cases hf:be x with
 | true=>rw[MY hf,BQ N hf hw]; cases o <;> rfl
 | false=>
  rw[ai7,Bool.or_true];cases x with
  | none=>rfl
  | some b=>
   cases hr:Ieee.double.read b with
   | number s m i=>rw[IL hr]at hf; cases hf
   | nan s f=>
    have:feq (some b) (some b)=false:=by rw[Qk,hr]; rfl
    rw[this]; rfl
   | infinity s=>
    have h1:feq (some b) (some b)=true:=by rw[Qk,hr]; cases s <;> rfl
    rw[h1];show i6 N (some b) 0 _=_
    (unfold i6; rw[ae]; unfold uj)
    rw[show((0:Int)==0)=true from rfl,aiw];simp only[xl];rw[J4 (hw b rfl) hr];have h2:fgt (some 9218868437227405312) (some 9218868437227405311)=true:=by decide
    rw[h2,aiw]
def FC {N:Nat} {x:Fl} (hw:FW x) (o:Bool) (k:Kz4):yX N x o k=k (o || !be x):=by
 (unfold yX; rw[ae]; unfold LS)
 exact Di hw o k
def zG (N:Nat) (x y:Fl) (o:Bool) (k:Kz4):yX N (ep x y) o k=k (o || !be (ep x y)):=FC (kQ x y) o k
def Dx (N:Nat) (x y:Fl) (o:Bool) (k:Ky7):nl N x y o k=k (aF x y) (o || !be (aF x y)):=by
 (unfold nl; rw[ae]; unfold sw)
 rw[FC (C9 x y)]
def Vb {x y:Fl} (hx:be x=true) (hy:Dv y):Nn (fdiv x y):=by
 obtain⟨a,s,m,i,rfl,ha⟩:=qf hx;obtain⟨b,rfl,hb⟩:=hy;show Nn (((Ieee.double.read a).quotient (Ieee.double.fractionBits+2) (Ieee.double.read b)).map Ieee.double.write);rw[ha];rcases hb with hb | ⟨n,j,hb,hn⟩
 ·rw[hb]; exact zW _ _ _
 ·rw[hb]; simp only[Datum.quotient,if_neg hn]; exact zW _ _ _
end Go.Proofs.YtbiingchhnlcnaaGreatDoor
end
