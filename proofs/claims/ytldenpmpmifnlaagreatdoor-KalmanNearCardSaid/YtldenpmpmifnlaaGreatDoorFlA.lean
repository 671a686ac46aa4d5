/-
  FLOATS, first part: what is written and read again; noughts; one.
  Conditions: none.
-/
import Derived.Test.YtldenpmpmifnlaaGreatDoorMachT
set_option linter.unusedVariables false
section
namespace Go.Mach
open Ieee
theorem il:Ieee.double.leastPlace = -1074:=by decide
theorem jM:Ieee.double.binade=4503599627370496:=by decide
theorem cE:Ieee.double.signWeight=9223372036854775808:=by decide
theorem fN:Ieee.double.infRung=9218868437227405312:=by decide
abbrev W64 (b:Nat):Prop:=b<18446744073709551616
theorem Ag (s:Bool) (n:Nat):Toward.even.cut s n 0=n:=by simp[Toward.cut,azA]
theorem L9 (s:Bool) (n d:Nat) (hn:0<n):Toward.even.cut s (2*n) (d+1)=Toward.even.cut s n d:=by
 have hl:(2*n).log2=n.log2+1:=Nat.log2_two_mul (by omega);unfold Toward.cut;have hm:min (d+1) ((2*n).log2+2)=min d (n.log2+2)+1:=by rw[hl]; omega
 rw[hm];generalize min d (n.log2+2)=g;have hg:1 <<< (g+1)=2*(1 <<< g):=by rw[Nat.shiftLeft_eq,Nat.shiftLeft_eq,awX]; omega
 have e1:2*n / (1 <<< (g+1))=n / (1 <<< g):=by rw[hg]; exact Nat.mul_div_mul_left _ _ (by decide)
 have e2:2*n%(1 <<< (g+1))=2*(n%(1 <<< g)):=by rw[hg]; exact ayy _ _ _
 have e3:∀ q r:Nat,(decide (2*(1 <<< g)<2*(2*r))||(2*(1 <<< g)==2*(2*r)&&q%2==1))=(decide (1 <<< g<2*r)||(1 <<< g==2*r&&q%2==1)):=by intro q r;rw[ayo];simp only[ay5,axC,ayS,azl];omega
 show 2*n / (1 <<< (g+1))+(decide (1 <<< (g+1)<2*(2*n%(1 <<< (g+1))))||(1 <<< (g+1)==2*(2*n%(1 <<< (g+1)))&&2*n / (1 <<< (g+1))%2==1)).toNat=_;rw[e1,e2,hg,e3]
theorem Fe (s:Bool) (m:Nat) (i:Int):Ieee.double.nearest s (2*m) (i - 1)=Ieee.double.nearest s m i:=by
 unfold Format.nearest;by_cases hm:m=0
 ·simp[hm]
 ·rw[if_neg (by omega),if_neg hm];have hl:(2*m).log2=m.log2+1:=Nat.log2_two_mul hm;have hp:i - 1+((2*m).log2:Int)=i+(m.log2:Int):=by rw[hl]; omega
  rw[hp];generalize hL:max (i+(m.log2:Int) - Ieee.double.fractionBits) Ieee.double.leastPlace=L;simp only;have key:Toward.even.cut s ((2*m) <<< (i - 1 - L).toNat) (L - (i - 1)).toNat=Toward.even.cut s (m <<< (i - L).toNat) (L - i).toNat:=by
   by_cases h:i<=L
   ·have e1:(i - 1 - L).toNat=0:=by omega
    have e2:(i - L).toNat=0:=by omega
    have e3:(L - (i - 1)).toNat=(L - i).toNat+1:=by omega
    rw[e1,e2,e3,Nat.shiftLeft_zero,Nat.shiftLeft_zero];exact L9 s m _ (by omega)
   ·have e1:(L - (i - 1)).toNat=0:=by omega
    have e2:(L - i).toNat=0:=by omega
    have e3:(i - L).toNat=(i - 1 - L).toNat+1:=by omega
    rw[e1,e2,e3,Nat.shiftLeft_eq,Nat.shiftLeft_eq,awX];congr 1;rw[awR 2 m,awW,awR 2]
  rw[key]
theorem mR (s:Bool) (m:Nat) (i:Int):∀ k:Nat,Ieee.double.nearest s (m <<< k) (i - k)=Ieee.double.nearest s m i
 | 0=>by simp
 | k+1=>by
  have e1:m <<< (k+1)=2*(m <<< k):=by rw[Nat.shiftLeft_eq,Nat.shiftLeft_eq,awX]; rw[awR 2,awW]
  have e2:i - ((k+1:Nat):Int)=(i - (k:Int)) - 1:=by omega
  rw[e1,e2,Fe,mR s m i k]
theorem gz {b:Nat} {s:Bool} {m:Nat} {i:Int} (h:Ieee.double.read b=.number s m i) :
    (s=(b / 9223372036854775808%2==1))/\b%9223372036854775808<9218868437227405312 /\
    ((b%9223372036854775808<4503599627370496/\m=b%9223372036854775808/\i = -1074) \/
     (4503599627370496<=b%9223372036854775808/\m=4503599627370496+b%9223372036854775808%4503599627370496/\i = -1074+((b%9223372036854775808 / 4503599627370496 - 1:Nat):Int))):=by
  unfold Format.read at h;simp only[cE,jM,fN,il]at h;split at h
  · cases h
    exact⟨rfl,by omega,.inl ⟨by assumption,rfl,rfl⟩⟩
  · split at h
    · cases h
      exact⟨rfl,by omega,.inr ⟨by omega,rfl,rfl⟩⟩
    · split at h <;> cases h
theorem Cn {b:Nat} (hb:W64 b):Ieee.double.word (b / 9223372036854775808%2==1) (b%9223372036854775808)=b:=by
 unfold Format.word;rw[cE];by_cases h:b / 9223372036854775808%2=1
 ·rw[h]; simp; omega
 ·have:b / 9223372036854775808%2=0:=by omega
  rw[this]; simp; omega
theorem uT {b:Nat} (hb:W64 b) {s:Bool} {m:Nat} {i:Int} (h:Ieee.double.read b=.number s m i):Ieee.double.nearest s m i=b:=by
 obtain⟨rfl,hlt,h⟩:=gz h;unfold Format.nearest;have hf:Ieee.double.fractionBits=52:=rfl;rw[il,jM,fN,hf];rcases h with⟨h1,rfl,rfl⟩ | ⟨h1,rfl,rfl⟩
 ·by_cases h0:b%9223372036854775808=0
  ·rw[if_pos h0];have:=Cn hb
   rwa [h0]at this
  ·rw[if_neg h0];have hlog:(b%9223372036854775808).log2<52:=(Nat.log2_lt h0).2 (by simpa using h1);have hL:max ((-1074:Int)+((b%9223372036854775808).log2:Int) - (52:Nat)) (-1074) = -1074:=by omega
   simp only[hL];have e0:((-1074:Int) - -1074).toNat=0:=by decide
   rw[e0,Nat.shiftLeft_zero,Ag,axF,axe,axU (by omega)];exact Cn hb
 ·generalize hr:b%9223372036854775808=r at *;have hm:4503599627370496+r%4503599627370496 ≠ 0:=by omega
  rw[if_neg hm];have hlog:(4503599627370496+r%4503599627370496).log2=52:=by rw[Nat.log2_eq_iff hm]; constructor <;> omega
  simp only[hlog];have hL:max ((-1074:Int)+((r / 4503599627370496 - 1:Nat):Int)+((52:Nat):Int) - (52:Nat)) (-1074) = -1074+((r / 4503599627370496 - 1:Nat):Int):=by omega
  rw[hL];have e0:((-1074:Int)+((r / 4503599627370496 - 1:Nat):Int) - (-1074+((r / 4503599627370496 - 1:Nat):Int))).toNat=0:=by omega
  have e1:((-1074:Int)+((r / 4503599627370496 - 1:Nat):Int) - -1074).toNat=r / 4503599627370496 - 1:=by omega
  rw[e0,e1,Nat.shiftLeft_zero,Ag];have e2:(r / 4503599627370496 - 1)*4503599627370496+(4503599627370496+r%4503599627370496)=r:=by
   have:=axz r 4503599627370496;have h3:1<=r / 4503599627370496:=by omega
   rw[Nat.sub_mul]; omega
  rw[e2,axU (by omega),<- hr];exact Cn hb
theorem uS (s:Bool) (m:Nat) (i:Int):Ieee.double.write (.number s m i)=Ieee.double.nearest s m i:=rfl
theorem nS (s:Bool) (i:Int):Ieee.double.nearest s 0 i=Ieee.double.word s 0:=by simp[Format.nearest]
theorem HE:Ieee.double.read 0=.number false 0 (-1074):=by decide
theorem Nb (s:Bool):Ieee.double.read (Ieee.double.word s 0)=.number s 0 (-1074):=by cases s <;> decide
theorem WH:Ieee.double.read 4607182418800017408=.number false 4503599627370496 (-52):=by decide
theorem iD {b:Nat} {s:Bool} {m:Nat} {i:Int} (h:Ieee.double.read b=.number s m i) : -1074<=i:=by obtain⟨-,-,h⟩:=gz h;omega
theorem iu (s:Bool) (k:Nat):signed s 0 k=0:=by cases s <;> simp[signed]
theorem SN {b:Nat} (hb:W64 b) {s:Bool} {i:Int} (h:Ieee.double.read b=.number s 0 i):b=Ieee.double.word s 0:=by rw[<- uT hb h,nS]
theorem SZ {b:Nat} (hb:W64 b) {s:Bool} {m:Nat} {i:Int} (h:Ieee.double.read b=.number s m i):Ieee.double.mul 4607182418800017408 b=some b:=by
 unfold Format.mul;rw[h,WH];simp only[Datum.product,axP,uS,Bool.false_xor];have e1:4503599627370496*m=m <<< 52:=by rw[Nat.shiftLeft_eq,awR]
 have e2:(-52:Int)+i=i - ((52:Nat):Int):=by omega
 rw[e1,e2,mR,uT hb h]
def FW (x:Fl):Prop:=∀ b,x=some b->W64 b
theorem cR {x:Fl} (h:aw x=true):∃ b s m i,x=some b/\Ieee.double.read b=.number s m i:=by
 cases x with
 | none=>cases h
 | some b=>
  simp only[aw]at h;cases e:Ieee.double.read b with
  | number s m i=>exact⟨b,s,m,i,rfl,e⟩
  | infinity s=>rw[e]at h; cases h
  | nan s t=>rw[e]at h; cases h
theorem sw {b:Nat} {s:Bool} {m:Nat} {i:Int} (h:Ieee.double.read b=.number s m i):aw (some b)=true:=by simp[aw,h,EW]
theorem WA {x:Fl} (hw:FW x) (h:aw x=true):aZ (some 4607182418800017408) x=x:=by obtain⟨b,s,m,i,rfl,hb⟩:=cR h;exact SZ (hw b rfl) hb
theorem EG {x:Fl} (h:aw x=true):feq x x=true:=by obtain⟨b,s,m,i,rfl,hb⟩:=cR h;simp only[feq,vq,Format.order,hb,Datum.order];simp[compare,compareOfLessAndEq]
theorem Ad {n:Nat} (h:W64 n):FW (ir n):=by
 intro b hb;unfold ir at hb;cases hn:isNaN n with
 | true=>rw[hn]at hb; cases hb
 | false=>rw[hn]at hb; cases hb; exact h
theorem mS {b:Nat} {s:Bool} {m:Nat} {i:Int} (h:Ieee.double.read b=.number s m i):i<=971/\m<9007199254740992:=by
 obtain⟨-,h1,h⟩:=gz h;rcases h with⟨h2,rfl,rfl⟩ | ⟨h2,rfl,rfl⟩
 ·exact⟨by omega,by omega⟩
 ·refine⟨by omega,by omega⟩
theorem sE (s:Bool) (M:Nat) (P:Int) (hM:4503599627370496<=M/\M<9007199254740992) (hP : -1074<=P/\P<=971) :
  Ieee.double.read (Ieee.double.word s ((P+1075).toNat*4503599627370496+(M - 4503599627370496)))=.number s M P:=by
 have hE:1<=(P+1075).toNat/\(P+1075).toNat<=2046:=by omega
 generalize hEe:(P+1075).toNat=E at hE ⊢;have hr:E*4503599627370496+(M - 4503599627370496)<9218868437227405312:=by omega
 unfold Format.read;simp only[cE,jM,fN,il];have hw:Ieee.double.word s (E*4503599627370496+(M - 4503599627370496))%9223372036854775808=E*4503599627370496+(M - 4503599627370496):=by unfold Format.word; rw[cE]; cases s <;> simp <;> omega
 have hs:(Ieee.double.word s (E*4503599627370496+(M - 4503599627370496)) / 9223372036854775808%2==1)=s:=by
  unfold Format.word; rw[cE];cases s
  ·simp; omega
  ·have:(9223372036854775808+(E*4503599627370496+(M - 4503599627370496))) / 9223372036854775808=1:=by omega
   simp[this]
 rw[hw,hs,if_neg (by omega),if_pos hr];have e1:4503599627370496+(E*4503599627370496+(M - 4503599627370496))%4503599627370496=M:=by omega
 have e2:(-1074:Int)+(((E*4503599627370496+(M - 4503599627370496)) / 4503599627370496 - 1:Nat):Int)=P:=by omega
 rw[e1,e2]
theorem rS (s:Bool) {r:Nat} (h:r<9223372036854775808):W64 (Ieee.double.word s r):=by unfold W64 Format.word; rw[cE]; cases s <;> simp <;> omega
theorem agE {m:Nat} (h0:m ≠ 0) (h:m<9007199254740992):4503599627370496<=m <<< (52 - m.log2)/\m <<< (52 - m.log2)<9007199254740992:=by
 have h1:=Nat.log2_self_le h0;have h2:m<2 ^ (m.log2+1):=Nat.lt_log2_self;have h3:m.log2<=52:=by have:=(Nat.log2_lt h0).2 (by simpa using h:m<2 ^ 53);omega
 rw[Nat.shiftLeft_eq];have e1:2 ^ m.log2*2 ^ (52 - m.log2)=4503599627370496:=by rw[<- aw2,show m.log2+(52 - m.log2)=52 by omega]
 have e2:2 ^ (m.log2+1)*2 ^ (52 - m.log2)=9007199254740992:=by rw[<- aw2,show m.log2+1+(52 - m.log2)=53 by omega]
 exact⟨by rw[<- e1]; exact awU _ h1,by rw[<- e2]; exact axE h2 (aw0 _)⟩
theorem It (s:Bool) (m:Nat) (i:Int):Ieee.double.nearest s (m <<< (52 - m.log2)) (i - ((52 - m.log2:Nat):Int))=Ieee.double.nearest s m i:=mR s m i _
theorem sD {M:Nat} (hM:4503599627370496<=M/\M<9007199254740992):M.log2=52:=by rw[Nat.log2_eq_iff (by omega)]; constructor <;> omega
theorem Iu (s:Bool) {M:Nat} (hM:4503599627370496<=M/\M<9007199254740992) {q:Int} (h:q < -1127):Ieee.double.nearest s M q=Ieee.double.word s 0:=by
 unfold Format.nearest;rw[if_neg (by omega),il,jM,fN,sD hM];have hf:Ieee.double.fractionBits=52:=rfl;rw[hf];have hL:max (q+((52:Nat):Int) - ((52:Nat):Int)) (-1074) = -1074:=by omega
 simp only[hL];have e1:(q - -1074).toNat=0:=by omega
 have e2:((-1074:Int) - -1074).toNat=0:=by decide
 rw[e1,e2,Nat.shiftLeft_zero];have hd:54<=(-1074 - q).toNat:=by omega
 unfold Toward.cut;have hmn:min (-1074 - q).toNat (M.log2+2)=54:=by rw[sD hM]; omega
 rw[hmn];have hg:1 <<< 54=18014398509481984:=by decide
 rw[hg];dsimp only;rw[axl (by omega),awV (by omega)];have hm:(decide (18014398509481984<2*M)||(18014398509481984==2*M&&0%2==1))=false:=by rw[awN (by omega)]; simp
 rw[hm];simp
theorem Is (s:Bool) {M:Nat} (hM:4503599627370496<=M/\M<9007199254740992) {q:Int} (h:971<q):Ieee.double.nearest s M q=Ieee.double.word s 9218868437227405312:=by
 unfold Format.nearest;rw[if_neg (by omega),il,jM,fN,sD hM];have hf:Ieee.double.fractionBits=52:=rfl;rw[hf];have hL:max (q+((52:Nat):Int) - ((52:Nat):Int)) (-1074)=q:=by omega
 simp only[hL];have e1:(q - q).toNat=0:=by omega
 rw[e1,Nat.shiftLeft_zero,Ag,Nat.min_eq_right (by omega)]
theorem LZ {b:Nat} (hb:W64 b):az .andNot .u64 (b:Int) 9218868437227405312=((b / 9223372036854775808*9223372036854775808+b%4503599627370496:Nat):Int):=by
 unfold az qf;simp only[axk];unfold W64 at hb;have e:((BitVec.ofInt (IntKind.bits .u64) (b:Int)) &&& ~~~(BitVec.ofInt (IntKind.bits .u64) (9218868437227405312:Int))).toNat=b / 9223372036854775808*9223372036854775808+b%4503599627370496:=by
  show((BitVec.ofInt 64 (b:Int)) &&& ~~~(BitVec.ofInt 64 (9218868437227405312:Int))).toNat=_;have hm : ~~~(BitVec.ofInt 64 (9218868437227405312:Int))=BitVec.ofNat 64 (9223372036854775808+4503599627370495):=by decide
  have h64:(2:Nat) ^ 64=18446744073709551616:=by decide
  rw[hm,ayt,axg,axi,axi,awV (by omega),awV (by omega)];have e1:b=2 ^ 63*(b / 9223372036854775808)+b%9223372036854775808:=by
   have:(2:Nat) ^ 63=9223372036854775808:=by decide
   rw[this]; omega
  have e2:9223372036854775808+4503599627370495=2 ^ 63*1+4503599627370495:=by decide
  have p63:(2:Nat) ^ 63=9223372036854775808:=by decide
  have e3:b / 9223372036854775808*9223372036854775808+b%4503599627370496=2 ^ 63*(b / 9223372036854775808)+b%4503599627370496:=by rw[p63]; omega
  have e4:b%9223372036854775808%4503599627370496=b%4503599627370496:=by omega
  have e5:b%9223372036854775808 &&& 4503599627370495=b%4503599627370496:=by
   have:=aye (b%9223372036854775808) 52;have p52:(2:Nat) ^ 52=4503599627370496:=by decide
   rw[p52]at this;rw[this,e4]
  have e6:b / 9223372036854775808 &&& 1=b / 9223372036854775808:=by have:=Nat.and_one_is_mod (b / 9223372036854775808);rw[this]; omega
  apply ayn;intro j;rw[e3,e2]
  conv=>lhs; rw[e1]
  have l1:b%9223372036854775808<2 ^ 63:=by rw[p63]; omega
  have l2:4503599627370495<2 ^ 63:=by decide
  have l3:b%4503599627370496<2 ^ 63:=by rw[p63]; omega
  rw[ayp,ayq _ l1,ayq _ l2,ayq _ l3];by_cases hj:j<63
  ·simp only[if_pos hj];rw[<- ayp,e5]
  ·simp only[if_neg hj];rw[<- ayp,e6]
 rw[e,pJ];omega
end Go.Mach
end
section
namespace Go.Proofs.YtldenpmpmifnlaaGreatDoor
open Go Go.Mach Ieee
theorem UC (s:Bool) (n d:Nat) (hd:d<=n.log2+2):n / (1 <<< d)<=Toward.even.cut s n d:=by unfold Toward.cut;rw[axU hd];exact ayD _ _
theorem afR (s:Bool) (n d:Nat) (hn:n ≠ 0):Toward.even.cut s n d<=2 ^ (n.log2+1 - d):=by
 have hb:∀ b:Bool,b.toNat<=1:=by decide
 unfold Toward.cut;dsimp only;have h2:n<2 ^ (n.log2+1):=Nat.lt_log2_self;by_cases h:d<=n.log2+1
 ·rw[axU (by omega),Nat.shiftLeft_eq,ax4];have e:2 ^ (n.log2+1)=2 ^ d*2 ^ (n.log2+1 - d):=by rw[<- aw2,show d+(n.log2+1 - d)=n.log2+1 by omega]
  have h3:n / 2 ^ d<2 ^ (n.log2+1 - d):=by rw[awY (aw0 _),awR,<- e]; exact h2
  generalize 2 ^ (n.log2+1 - d)=q at *;refine aw_ (Nat.add_le_add_left (hb _) _) h3
 ·rw[show n.log2+1 - d=0 by omega,Nat.min_eq_right (by omega),Nat.shiftLeft_eq,ax4];have h3:n / 2 ^ (n.log2+2)=0:=axl (ayP h2 (Nat.pow_lt_pow_right (by decide) (by omega)));rw[h3,axe]; exact hb _
theorem Wp {m:Nat} (h0:m ≠ 0) (k:Nat):(m <<< k).log2=m.log2+k:=by
 have h1:=Nat.log2_self_le h0;have h2:m<2 ^ (m.log2+1):=Nat.lt_log2_self;rw[Nat.shiftLeft_eq,Nat.log2_eq_iff (azs h0 (Nat.pos_iff_ne_zero.1 (aw0 _)))];have e1:2 ^ (m.log2+k)=2 ^ m.log2*2 ^ k:=aw2 ..;have e2:2 ^ (m.log2+k+1)=2 ^ (m.log2+1)*2 ^ k:=by rw[<- aw2]; congr 1; omega
 exact⟨by rw[e1]; exact awU _ h1,by rw[e2]; exact axE h2 (aw0 _)⟩
end Go.Proofs.YtldenpmpmifnlaaGreatDoor
end
section
namespace Go.Mach
open Ieee
theorem FB (s:Bool) (m a c:Nat):signed s m (a+c)=signed s m a*2 ^ c:=by
 unfold signed;rw[Nat.shiftLeft_add];generalize m <<< a=q;have:((q <<< c:Nat):Int)=(q:Int)*2 ^ c:=by rw[Nat.shiftLeft_eq]; push_cast; rfl
 cases s
 ·simp only[axq,axc]; exact this
 ·simp only[ax5]; rw[this,ayN]
theorem WD (E:Nat):(0:Int)<2 ^ E:=Int.pow_pos (by decide)
theorem Cy (n:Int) (E:Nat):(n*2 ^ E).natAbs=n.natAbs*2 ^ E:=by rw[ayx,Int.natAbs_pow]; rfl
theorem Nx (s t:Bool) (m n a b:Nat):signed (s ^^ t) (m*n) (a+b)=signed s m a*signed t n b:=by
 unfold signed;simp only[Nat.shiftLeft_eq];have e:m*n*2 ^ (a+b)=(m*2 ^ a)*(n*2 ^ b):=by rw[aw2]; ac_rfl
 rw[e];generalize m*2 ^ a=p;generalize n*2 ^ b=q;cases s <;> cases t <;> simp[ayN,azM]
theorem aeC (s t:Bool) (m n:Nat) (i j:Int):∃ sg,((Datum.number s m i).sum (.number t n j)).map Ieee.double.write=some (Ieee.double.nearest sg (signed s m (i - min i j).toNat+signed t n (j - min i j).toNat).natAbs (min i j)) /\
  (signed s m (i - min i j).toNat+signed t n (j - min i j).toNat ≠ 0->sg=decide (signed s m (i - min i j).toNat+signed t n (j - min i j).toNat<0)):=by
 refine⟨_,rfl,λh=>?_⟩;rw[if_neg h];congr
theorem Ny (t:Bool) (n k:Nat):signed (!t) n k = - signed t n k:=by unfold signed; cases t <;> simp
end Go.Mach
end
