/-
  FLOATS, first part: what is written and read again; noughts; one.
  Conditions: none.
-/
import Derived.Test.YtadejnnigmcpdaaGreatDoorMachP
set_option linter.unusedVariables false
section
namespace Go.Mach
open Ieee
theorem bU:Ieee.double.leastPlace = -1074:=by decide
theorem cO:Ieee.double.binade=4503599627370496:=by decide
theorem aI:Ieee.double.signWeight=9223372036854775808:=by decide
theorem bf:Ieee.double.infRung=9218868437227405312:=by decide
abbrev W64 (b:Nat):Prop:=b<18446744073709551616
theorem m_ (s:Bool) (n:Nat):Toward.even.cut s n 0=n:=by simp[Toward.cut,Nat.mod_one]
theorem E8 (s:Bool) (n d:Nat) (hn:0<n):Toward.even.cut s (2*n) (d+1)=Toward.even.cut s n d:=by
 have hl:(2*n).log2=n.log2+1:=Nat.log2_two_mul (by omega);unfold Toward.cut;have hm:min (d+1) ((2*n).log2+2)=min d (n.log2+2)+1:=by rw[hl]; omega
 rw[hm];generalize min d (n.log2+2)=g;have hg:1 <<< (g+1)=2*(1 <<< g):=by rw[Nat.shiftLeft_eq,Nat.shiftLeft_eq,aqv]; omega
 have e1:2*n / (1 <<< (g+1))=n / (1 <<< g):=by rw[hg]; exact Nat.mul_div_mul_left _ _ (by decide)
 have e2:2*n%(1 <<< (g+1))=2*(n%(1 <<< g)):=by rw[hg]; exact Nat.mul_mod_mul_left _ _ _
 have e3:∀ q r:Nat,(decide (2*(1 <<< g)<2*(2*r))||(2*(1 <<< g)==2*(2*r)&&q%2==1))=(decide (1 <<< g<2*r)||(1 <<< g==2*r&&q%2==1)):=by intro q r;rw[aq3];simp only[aqF,aqj,arb,arl];omega
 show 2*n / (1 <<< (g+1))+(decide (1 <<< (g+1)<2*(2*n%(1 <<< (g+1))))||(1 <<< (g+1)==2*(2*n%(1 <<< (g+1)))&&2*n / (1 <<< (g+1))%2==1)).toNat=_;rw[e1,e2,hg,e3]
theorem xK (s:Bool) (m:Nat) (i:Int):Ieee.double.nearest s (2*m) (i - 1)=Ieee.double.nearest s m i:=by
 unfold Format.nearest;by_cases hm:m=0
 ·simp[hm]
 ·rw[if_neg (by omega),if_neg hm];have hl:(2*m).log2=m.log2+1:=Nat.log2_two_mul hm;have hp:i - 1+((2*m).log2:Int)=i+(m.log2:Int):=by rw[hl]; omega
  rw[hp];generalize hL:max (i+(m.log2:Int) - Ieee.double.fractionBits) Ieee.double.leastPlace=L;simp only;have key:Toward.even.cut s ((2*m) <<< (i - 1 - L).toNat) (L - (i - 1)).toNat=Toward.even.cut s (m <<< (i - L).toNat) (L - i).toNat:=by
   by_cases h:i<=L
   ·have e1:(i - 1 - L).toNat=0:=by omega
    have e2:(i - L).toNat=0:=by omega
    have e3:(L - (i - 1)).toNat=(L - i).toNat+1:=by omega
    rw[e1,e2,e3,Nat.shiftLeft_zero,Nat.shiftLeft_zero];exact E8 s m _ (by omega)
   ·have e1:(L - (i - 1)).toNat=0:=by omega
    have e2:(L - i).toNat=0:=by omega
    have e3:(i - L).toNat=(i - 1 - L).toNat+1:=by omega
    rw[e1,e2,e3,Nat.shiftLeft_eq,Nat.shiftLeft_eq,aqv];congr 1;rw[aqw 2 m,aqd,aqw 2]
  rw[key]
theorem eg (s:Bool) (m:Nat) (i:Int):∀ k:Nat,Ieee.double.nearest s (m <<< k) (i - k)=Ieee.double.nearest s m i
 | 0=>by simp
 | k+1=>by
  have e1:m <<< (k+1)=2*(m <<< k):=by rw[Nat.shiftLeft_eq,Nat.shiftLeft_eq,aqv]; rw[aqw 2,aqd]
  have e2:i - ((k+1:Nat):Int)=(i - (k:Int)) - 1:=by omega
  rw[e1,e2,xK,eg s m i k]
theorem cE {b:Nat} {s:Bool} {m:Nat} {i:Int} (h:Ieee.double.read b=.number s m i) :
    (s=(b / 9223372036854775808%2==1))/\b%9223372036854775808<9218868437227405312 /\
    ((b%9223372036854775808<4503599627370496/\m=b%9223372036854775808/\i = -1074) \/
     (4503599627370496<=b%9223372036854775808/\m=4503599627370496+b%9223372036854775808%4503599627370496/\i = -1074+((b%9223372036854775808 / 4503599627370496 - 1:Nat):Int))):=by
  unfold Format.read at h;simp only[aI,cO,bf,bU]at h;split at h
  · cases h
    exact⟨rfl,by omega,.inl ⟨by assumption,rfl,rfl⟩⟩
  · split at h
    · cases h
      exact⟨rfl,by omega,.inr ⟨by omega,rfl,rfl⟩⟩
    · split at h <;> cases h
theorem uQ {b:Nat} (hb:W64 b):Ieee.double.word (b / 9223372036854775808%2==1) (b%9223372036854775808)=b:=by
 unfold Format.word;rw[aI];by_cases h:b / 9223372036854775808%2=1
 ·rw[h]; simp; omega
 ·have:b / 9223372036854775808%2=0:=by omega
  rw[this]; simp; omega
theorem ff {b:Nat} (hb:W64 b) {s:Bool} {m:Nat} {i:Int} (h:Ieee.double.read b=.number s m i):Ieee.double.nearest s m i=b:=by
 obtain⟨rfl,hlt,h⟩:=cE h;unfold Format.nearest;have hf:Ieee.double.fractionBits=52:=rfl;rw[bU,cO,bf,hf];rcases h with⟨h1,rfl,rfl⟩ | ⟨h1,rfl,rfl⟩
 ·by_cases h0:b%9223372036854775808=0
  ·rw[if_pos h0];have:=uQ hb
   rwa [h0]at this
  ·rw[if_neg h0];have hlog:(b%9223372036854775808).log2<52:=(Nat.log2_lt h0).2 (by simpa using h1);have hL:max ((-1074:Int)+((b%9223372036854775808).log2:Int) - (52:Nat)) (-1074) = -1074:=by omega
   simp only[hL];have e0:((-1074:Int) - -1074).toNat=0:=by decide
   rw[e0,Nat.shiftLeft_zero,m_,aq7,aqb,aqp (by omega)];exact uQ hb
 ·generalize hr:b%9223372036854775808=r at *;have hm:4503599627370496+r%4503599627370496 ≠ 0:=by omega
  rw[if_neg hm];have hlog:(4503599627370496+r%4503599627370496).log2=52:=by rw[Nat.log2_eq_iff hm]; constructor <;> omega
  simp only[hlog];have hL:max ((-1074:Int)+((r / 4503599627370496 - 1:Nat):Int)+((52:Nat):Int) - (52:Nat)) (-1074) = -1074+((r / 4503599627370496 - 1:Nat):Int):=by omega
  rw[hL];have e0:((-1074:Int)+((r / 4503599627370496 - 1:Nat):Int) - (-1074+((r / 4503599627370496 - 1:Nat):Int))).toNat=0:=by omega
  have e1:((-1074:Int)+((r / 4503599627370496 - 1:Nat):Int) - -1074).toNat=r / 4503599627370496 - 1:=by omega
  rw[e0,e1,Nat.shiftLeft_zero,m_];have e2:(r / 4503599627370496 - 1)*4503599627370496+(4503599627370496+r%4503599627370496)=r:=by
   have:=arh r 4503599627370496;have h3:1<=r / 4503599627370496:=by omega
   rw[Nat.sub_mul]; omega
  rw[e2,aqp (by omega),<- hr];exact uQ hb
theorem di (s:Bool) (m:Nat) (i:Int):Ieee.double.write (.number s m i)=Ieee.double.nearest s m i:=rfl
theorem cv (s:Bool) (i:Int):Ieee.double.nearest s 0 i=Ieee.double.word s 0:=by simp[Format.nearest]
theorem jL:Ieee.double.read 0=.number false 0 (-1074):=by decide
theorem mp (s:Bool):Ieee.double.read (Ieee.double.word s 0)=.number s 0 (-1074):=by cases s <;> decide
theorem DK:Ieee.double.read 4607182418800017408=.number false 4503599627370496 (-52):=by decide
theorem bg {b:Nat} {s:Bool} {m:Nat} {i:Int} (h:Ieee.double.read b=.number s m i) : -1074<=i:=by obtain⟨-,-,h⟩:=cE h;omega
theorem bB (s:Bool) (k:Nat):signed s 0 k=0:=by cases s <;> simp[signed]
theorem ym {s t:Bool} {m:Nat} {i:Int} (hi : -1074<=i) (hm:m ≠ 0):((Datum.number s m i).sum (.number t 0 (-1074))).map Ieee.double.write=some (Ieee.double.nearest s m i):=by
 have hb:min i (-1074) = -1074:=by omega
 have hp:0<m <<< (i - -1074).toNat:=by rw[Nat.shiftLeft_eq]; exact aq4 (by omega) (ap7 _)
 have e2:i - ((i - -1074).toNat:Int) = -1074:=by omega
 have e3:=eg s m i (i - -1074).toNat;rw[e2]at e3;simp only[Datum.sum,hb,bB,Int.add_zero,aqh,di];rw[<- e3];cases s
 ·have h1:signed false m (i - -1074).toNat=((m <<< (i - -1074).toNat:Nat):Int):=rfl;rw[h1,if_neg (by omega),aqT];have h2:decide (((m <<< (i - -1074).toNat:Nat):Int)<0)=false:=aqE (by omega);rw[h2]
 ·have h1:signed true m (i - -1074).toNat = -((m <<< (i - -1074).toNat:Nat):Int):=rfl;rw[h1,if_neg (by omega),Int.natAbs_neg,aqT];have h2:decide (-((m <<< (i - -1074).toNat:Nat):Int)<0)=true:=aqx (by omega);rw[h2]
theorem Pf (s t:Bool):((Datum.number s 0 (-1074)).sum (.number t 0 (-1074))).map Ieee.double.write=some (Ieee.double.word (s&&t) 0):=by cases s <;> cases t <;> decide
theorem Ez {b:Nat} (hb:W64 b) {s t:Bool} {m:Nat} {i:Int} (h:Ieee.double.read b=.number s m i) (hm:m ≠ 0):Ieee.double.add b (Ieee.double.word t 0)=some b:=by unfold Format.add;rw[h,mp,ym (bg h) hm,ff hb h]
theorem CK (s t:Bool):Ieee.double.add (Ieee.double.word s 0) (Ieee.double.word t 0)=some (Ieee.double.word (s&&t) 0):=by unfold Format.add;rw[mp,mp,Pf]
theorem AQ {b:Nat} (hb:W64 b) {s:Bool} {i:Int} (h:Ieee.double.read b=.number s 0 i):b=Ieee.double.word s 0:=by rw[<- ff hb h,cv]
theorem OQ {b:Nat} (hb:W64 b) {s:Bool} {m:Nat} {i:Int} (h:Ieee.double.read b=.number s m i):Ieee.double.mul 4607182418800017408 b=some b:=by
 unfold Format.mul;rw[h,DK];simp only[Datum.product,aqh,di,Bool.false_xor];have e1:4503599627370496*m=m <<< 52:=by rw[Nat.shiftLeft_eq,aqw]
 have e2:(-52:Int)+i=i - ((52:Nat):Int):=by omega
 rw[e1,e2,eg,ff hb h]
def FW (x:Fl):Prop:=∀ b,x=some b->W64 b
theorem aG {x:Fl} (h:ar x=true):∃ b s m i,x=some b/\Ieee.double.read b=.number s m i:=by
 cases x with
 | none=>cases h
 | some b=>
  simp only[ar]at h;cases e:Ieee.double.read b with
  | number s m i=>exact⟨b,s,m,i,rfl,e⟩
  | infinity s=>rw[e]at h; cases h
  | nan s t=>rw[e]at h; cases h
theorem fS {b:Nat} {s:Bool} {m:Nat} {i:Int} (h:Ieee.double.read b=.number s m i):ar (some b)=true:=by simp[ar,h,mF]
theorem Uh {x:Fl} (hw:FW x) (h:ar x=true):af (some 4607182418800017408) x=x:=by obtain⟨b,s,m,i,rfl,hb⟩:=aG h;exact OQ (hw b rfl) hb
theorem Dc {x:Fl} (h:ar x=true):feq x x=true:=by obtain⟨b,s,m,i,rfl,hb⟩:=aG h;simp only[feq,lU,Format.order,hb,Datum.order];simp[compare,compareOfLessAndEq]
theorem jW {n:Nat} (h:W64 n):FW (cP n):=by
 intro b hb;unfold cP at hb;cases hn:isNaN n with
 | true=>rw[hn]at hb; cases hb
 | false=>rw[hn]at hb; cases hb; exact h
theorem dn {b:Nat} {s:Bool} {m:Nat} {i:Int} (h:Ieee.double.read b=.number s m i):i<=971/\m<9007199254740992:=by
 obtain⟨-,h1,h⟩:=cE h;rcases h with⟨h2,rfl,rfl⟩ | ⟨h2,rfl,rfl⟩
 ·exact⟨by omega,by omega⟩
 ·refine⟨by omega,by omega⟩
theorem dA (s:Bool) (M:Nat) (P:Int) (hM:4503599627370496<=M/\M<9007199254740992) (hP : -1074<=P/\P<=971) :
  Ieee.double.read (Ieee.double.word s ((P+1075).toNat*4503599627370496+(M - 4503599627370496)))=.number s M P:=by
 have hE:1<=(P+1075).toNat/\(P+1075).toNat<=2046:=by omega
 generalize hEe:(P+1075).toNat=E at hE ⊢;have hr:E*4503599627370496+(M - 4503599627370496)<9218868437227405312:=by omega
 unfold Format.read;simp only[aI,cO,bf,bU];have hw:Ieee.double.word s (E*4503599627370496+(M - 4503599627370496))%9223372036854775808=E*4503599627370496+(M - 4503599627370496):=by unfold Format.word; rw[aI]; cases s <;> simp <;> omega
 have hs:(Ieee.double.word s (E*4503599627370496+(M - 4503599627370496)) / 9223372036854775808%2==1)=s:=by
  unfold Format.word; rw[aI];cases s
  ·simp; omega
  ·have:(9223372036854775808+(E*4503599627370496+(M - 4503599627370496))) / 9223372036854775808=1:=by omega
   simp[this]
 rw[hw,hs,if_neg (by omega),if_pos hr];have e1:4503599627370496+(E*4503599627370496+(M - 4503599627370496))%4503599627370496=M:=by omega
 have e2:(-1074:Int)+(((E*4503599627370496+(M - 4503599627370496)) / 4503599627370496 - 1:Nat):Int)=P:=by omega
 rw[e1,e2]
theorem dY (s:Bool) {r:Nat} (h:r<9223372036854775808):W64 (Ieee.double.word s r):=by unfold W64 Format.word; rw[aI]; cases s <;> simp <;> omega
theorem BP {m:Nat} (h0:m ≠ 0) (h:m<9007199254740992):4503599627370496<=m <<< (52 - m.log2)/\m <<< (52 - m.log2)<9007199254740992:=by
 have h1:=Nat.log2_self_le h0;have h2:m<2 ^ (m.log2+1):=Nat.lt_log2_self;have h3:m.log2<=52:=by have:=(Nat.log2_lt h0).2 (by simpa using h:m<2 ^ 53);omega
 rw[Nat.shiftLeft_eq];have e1:2 ^ m.log2*2 ^ (52 - m.log2)=4503599627370496:=by rw[<- ap3,show m.log2+(52 - m.log2)=52 by omega]
 have e2:2 ^ (m.log2+1)*2 ^ (52 - m.log2)=9007199254740992:=by rw[<- ap3,show m.log2+1+(52 - m.log2)=53 by omega]
 exact⟨by rw[<- e1]; exact ap4 _ h1,by rw[<- e2]; exact aqG h2 (ap7 _)⟩
theorem jt (s:Bool) (m:Nat) (i:Int):Ieee.double.nearest s (m <<< (52 - m.log2)) (i - ((52 - m.log2:Nat):Int))=Ieee.double.nearest s m i:=eg s m i _
theorem iK {M:Nat} (hM:4503599627370496<=M/\M<9007199254740992):M.log2=52:=by rw[Nat.log2_eq_iff (by omega)]; constructor <;> omega
theorem BX (s:Bool) {M:Nat} (hM:4503599627370496<=M/\M<9007199254740992) {q:Int} (h:q < -1127):Ieee.double.nearest s M q=Ieee.double.word s 0:=by
 unfold Format.nearest;rw[if_neg (by omega),bU,cO,bf,iK hM];have hf:Ieee.double.fractionBits=52:=rfl;rw[hf];have hL:max (q+((52:Nat):Int) - ((52:Nat):Int)) (-1074) = -1074:=by omega
 simp only[hL];have e1:(q - -1074).toNat=0:=by omega
 have e2:((-1074:Int) - -1074).toNat=0:=by decide
 rw[e1,e2,Nat.shiftLeft_zero];have hd:54<=(-1074 - q).toNat:=by omega
 unfold Toward.cut;have hmn:min (-1074 - q).toNat (M.log2+2)=54:=by rw[iK hM]; omega
 rw[hmn];have hg:1 <<< 54=18014398509481984:=by decide
 rw[hg];dsimp only;rw[aqZ (by omega),aqi (by omega)];have hm:(decide (18014398509481984<2*M)||(18014398509481984==2*M&&0%2==1))=false:=by rw[aqE (by omega)]; simp
 rw[hm];simp
theorem BW (s:Bool) {M:Nat} (hM:4503599627370496<=M/\M<9007199254740992) {q:Int} (h:971<q):Ieee.double.nearest s M q=Ieee.double.word s 9218868437227405312:=by
 unfold Format.nearest;rw[if_neg (by omega),bU,cO,bf,iK hM];have hf:Ieee.double.fractionBits=52:=rfl;rw[hf];have hL:max (q+((52:Nat):Int) - ((52:Nat):Int)) (-1074)=q:=by omega
 simp only[hL];have e1:(q - q).toNat=0:=by omega
 rw[e1,Nat.shiftLeft_zero,m_,Nat.min_eq_right (by omega)]
theorem EU {b:Nat} (hb:W64 b):av .andNot .u64 (b:Int) 9218868437227405312=((b / 9223372036854775808*9223372036854775808+b%4503599627370496:Nat):Int):=by
 unfold av jV;simp only[aqs];unfold W64 at hb;have e:((BitVec.ofInt (IntKind.bits .u64) (b:Int)) &&& ~~~(BitVec.ofInt (IntKind.bits .u64) (9218868437227405312:Int))).toNat=b / 9223372036854775808*9223372036854775808+b%4503599627370496:=by
  show((BitVec.ofInt 64 (b:Int)) &&& ~~~(BitVec.ofInt 64 (9218868437227405312:Int))).toNat=_;have hm : ~~~(BitVec.ofInt 64 (9218868437227405312:Int))=BitVec.ofNat 64 (9223372036854775808+4503599627370495):=by decide
  have h64:(2:Nat) ^ 64=18446744073709551616:=by decide
  rw[hm,arg,aqL,aqu,aqu,aqi (by omega),aqi (by omega)];have e1:b=2 ^ 63*(b / 9223372036854775808)+b%9223372036854775808:=by
   have:(2:Nat) ^ 63=9223372036854775808:=by decide
   rw[this]; omega
  have e2:9223372036854775808+4503599627370495=2 ^ 63*1+4503599627370495:=by decide
  have p63:(2:Nat) ^ 63=9223372036854775808:=by decide
  have e3:b / 9223372036854775808*9223372036854775808+b%4503599627370496=2 ^ 63*(b / 9223372036854775808)+b%4503599627370496:=by rw[p63]; omega
  have e4:b%9223372036854775808%4503599627370496=b%4503599627370496:=by omega
  have e5:b%9223372036854775808 &&& 4503599627370495=b%4503599627370496:=by
   have:=aqz (b%9223372036854775808) 52;have p52:(2:Nat) ^ 52=4503599627370496:=by decide
   rw[p52]at this;rw[this,e4]
  have e6:b / 9223372036854775808 &&& 1=b / 9223372036854775808:=by have:=Nat.and_one_is_mod (b / 9223372036854775808);rw[this]; omega
  apply Nat.eq_of_testBit_eq;intro j;rw[e3,e2]
  conv=>lhs; rw[e1]
  have l1:b%9223372036854775808<2 ^ 63:=by rw[p63]; omega
  have l2:4503599627370495<2 ^ 63:=by decide
  have l3:b%4503599627370496<2 ^ 63:=by rw[p63]; omega
  rw[arj,aqH _ l1,aqH _ l2,aqH _ l3];by_cases hj:j<63
  ·simp only[if_pos hj];rw[<- arj,e5]
  ·simp only[if_neg hj];rw[<- arj,e6]
 rw[e,fe];omega
end Go.Mach
end
section
namespace Go.Proofs.YtadejnnigmcpdaaGreatDoor
open Go Go.Mach Ieee
theorem Bz (s:Bool) (n d:Nat) (hd:d<=n.log2+2):n / (1 <<< d)<=Toward.even.cut s n d:=by unfold Toward.cut;rw[aqp hd];exact aqN _ _
theorem Ri (s:Bool) (n d:Nat) (hn:n ≠ 0):Toward.even.cut s n d<=2 ^ (n.log2+1 - d):=by
 have hb:∀ b:Bool,b.toNat<=1:=by decide
 unfold Toward.cut;dsimp only;have h2:n<2 ^ (n.log2+1):=Nat.lt_log2_self;by_cases h:d<=n.log2+1
 ·rw[aqp (by omega),Nat.shiftLeft_eq,aqI];have e:2 ^ (n.log2+1)=2 ^ d*2 ^ (n.log2+1 - d):=by rw[<- ap3,show d+(n.log2+1 - d)=n.log2+1 by omega]
  have h3:n / 2 ^ d<2 ^ (n.log2+1 - d):=by rw[Nat.div_lt_iff_lt_mul (ap7 _),aqw,<- e]; exact h2
  generalize 2 ^ (n.log2+1 - d)=q at *;refine ap2 (Nat.add_le_add_left (hb _) _) h3
 ·rw[show n.log2+1 - d=0 by omega,Nat.min_eq_right (by omega),Nat.shiftLeft_eq,aqI];have h3:n / 2 ^ (n.log2+2)=0:=aqZ (Nat.lt_trans h2 (Nat.pow_lt_pow_right (by decide) (by omega)));rw[h3,aqb]; exact hb _
theorem xL (s:Bool) {m:Nat} (h0:m ≠ 0) {i:Int} {E:Nat} (hE1:1<=E) (hE2:E<=2047) (h:(E:Int)<=i+m.log2+1023) :
  ∃ r,Ieee.double.nearest s m i=Ieee.double.word s r/\E*4503599627370496<=r/\r<=9218868437227405312:=by
 unfold Format.nearest;rw[if_neg h0,bU,cO,bf];have hf:Ieee.double.fractionBits=52:=rfl;rw[hf];have hL:max (i+(m.log2:Int) - ((52:Nat):Int)) (-1074)=i+(m.log2:Int) - 52:=by omega
 simp only[hL];refine⟨_,rfl,?_,Nat.min_le_right _ _⟩;have hc:4503599627370496<=Toward.even.cut s (m <<< (i - (i+(m.log2:Int) - 52)).toNat) (i+(m.log2:Int) - 52 - i).toNat:=by
  have hself:=Nat.log2_self_le h0;by_cases hl:52<=m.log2
  ·have e1:(i - (i+(m.log2:Int) - 52)).toNat=0:=by omega
   have e2:(i+(m.log2:Int) - 52 - i).toNat=m.log2 - 52:=by omega
   rw[e1,e2,Nat.shiftLeft_zero];refine ap2 ?_ (Bz s m (m.log2 - 52) (by omega));rw[Nat.shiftLeft_eq,aqI,aqW (ap7 _)];have:4503599627370496*2 ^ (m.log2 - 52)=2 ^ m.log2:=by rw[show(4503599627370496:Nat)=2 ^ 52 by decide,<- ap3,show 52+(m.log2 - 52)=m.log2 by omega]
   omega
  ·have e1:(i - (i+(m.log2:Int) - 52)).toNat=52 - m.log2:=by omega
   have e2:(i+(m.log2:Int) - 52 - i).toNat=0:=by omega
   rw[e1,e2];refine ap2 ?_ (Bz s _ 0 (by omega));rw[Nat.shiftLeft_eq,Nat.shiftLeft_zero,arm];have:4503599627370496=2 ^ m.log2*2 ^ (52 - m.log2):=by rw[<- ap3,show m.log2+(52 - m.log2)=52 by omega]
   rw[this];exact ap4 _ hself
 generalize Toward.even.cut s (m <<< (i - (i+(m.log2:Int) - 52)).toNat) (i+(m.log2:Int) - 52 - i).toNat=c at hc ⊢;omega
theorem Du {m:Nat} (h0:m ≠ 0) (k:Nat):(m <<< k).log2=m.log2+k:=by
 have h1:=Nat.log2_self_le h0;have h2:m<2 ^ (m.log2+1):=Nat.lt_log2_self;rw[Nat.shiftLeft_eq,Nat.log2_eq_iff (ark h0 (Nat.pos_iff_ne_zero.1 (ap7 _)))];have e1:2 ^ (m.log2+k)=2 ^ m.log2*2 ^ k:=ap3 ..;have e2:2 ^ (m.log2+k+1)=2 ^ (m.log2+1)*2 ^ k:=by rw[<- ap3]; congr 1; omega
 exact⟨by rw[e1]; exact ap4 _ h1,by rw[e2]; exact aqG h2 (ap7 _)⟩
theorem Dz (s:Bool) {m:Nat} {i:Int} (h:i+m.log2<=1000) :
  ∃ r,Ieee.double.nearest s m i=Ieee.double.word s r/\r<9218868437227405312:=by
 unfold Format.nearest;by_cases h0:m=0
 ·rw[if_pos h0]; exact⟨0,rfl,by decide⟩
 rw[if_neg h0,bU,cO,bf];have hf:Ieee.double.fractionBits=52:=rfl;rw[hf];generalize hL:max (i+(m.log2:Int) - ((52:Nat):Int)) (-1074)=L;simp only;refine⟨_,rfl,?_⟩;have hc:Toward.even.cut s (m <<< (i - L).toNat) (L - i).toNat<=9007199254740992:=by
  have h1:m <<< (i - L).toNat ≠ 0:=by rw[Nat.shiftLeft_eq];exact ark h0 (Nat.pos_iff_ne_zero.1 (ap7 _))
  refine ap2 (Ri s _ _ h1) ?_;have h2:(m <<< (i - L).toNat).log2+1 - (L - i).toNat<=53:=by rw[Du h0]; omega
  exact ap2 (aqf (by decide) h2) (by decide)
 generalize Toward.even.cut s (m <<< (i - L).toNat) (L - i).toNat=c at hc ⊢;omega
theorem Uq (s:Bool) {r:Nat} (h:r<9218868437227405312):∃ m i,Ieee.double.read (Ieee.double.word s r)=.number s m i:=by
 have hw:Ieee.double.word s r%9223372036854775808=r:=by unfold Format.word; rw[aI]; cases s <;> simp <;> omega
 have hs:(Ieee.double.word s r / 9223372036854775808%2==1)=s:=by
  unfold Format.word; rw[aI];cases s
  ·simp; omega
  ·have:(9223372036854775808+r) / 9223372036854775808=1:=by omega
   simp[this]
 unfold Format.read;simp only[aI,cO,bf,hw,hs];split
 ·exact⟨_,_,rfl⟩
 ·exact⟨_,_,rfl⟩
theorem KX (s:Bool) {r E:Nat} (hE:1<=E) (h1:E*4503599627370496<=r) (h:r<=9218868437227405312) :
  Ieee.double.read (Ieee.double.word s r)=.infinity s \/ ∃ m i,Ieee.double.read (Ieee.double.word s r)=.number s m i/\4503599627370496<=m/\m<9007199254740992/\(E:Int) - 1075<=i:=by
 have hw:Ieee.double.word s r%9223372036854775808=r:=by unfold Format.word; rw[aI]; cases s <;> simp <;> omega
 have hs:(Ieee.double.word s r / 9223372036854775808%2==1)=s:=by
  unfold Format.word; rw[aI];cases s
  ·simp; omega
  ·have:(9223372036854775808+r) / 9223372036854775808=1:=by omega
   simp[this]
 unfold Format.read;simp only[aI,cO,bf,bU,hw,hs];rw[if_neg (by omega)];split
 ·exact .inr ⟨_,_,rfl,by omega,by omega,by omega⟩
 ·rw[if_pos (by omega)]; exact .inl rfl
end Go.Proofs.YtadejnnigmcpdaaGreatDoor
end
section
namespace Go.Mach
open Ieee
theorem yf (s:Bool) (m a c:Nat):signed s m (a+c)=signed s m a*2 ^ c:=by
 unfold signed;rw[Nat.shiftLeft_add];generalize m <<< a=q;have:((q <<< c:Nat):Int)=(q:Int)*2 ^ c:=by rw[Nat.shiftLeft_eq]; push_cast; rfl
 cases s
 ·simp only[aqg,aqa]; exact this
 ·simp only[aqB]; rw[this,Int.neg_mul]
theorem Gv (s:Bool) (m k:Nat):(signed s m k).natAbs=m*2 ^ k:=by
 unfold signed;rw[Nat.shiftLeft_eq];cases s
 ·exact aqT _
 ·show(-(((m*2 ^ k:Nat):Int))).natAbs=_;rw[Int.natAbs_neg]; exact aqT _
theorem Uk (E:Nat):(0:Int)<2 ^ E:=Int.pow_pos (by decide)
theorem uY (n:Int) (E:Nat):(n*2 ^ E).natAbs=n.natAbs*2 ^ E:=by rw[Int.natAbs_mul,Int.natAbs_pow]; rfl
theorem Gw (s t:Bool) (m n a b:Nat):signed (s ^^ t) (m*n) (a+b)=signed s m a*signed t n b:=by
 unfold signed;simp only[Nat.shiftLeft_eq];have e:m*n*2 ^ (a+b)=(m*2 ^ a)*(n*2 ^ b):=by rw[ap3]; ac_rfl
 rw[e];generalize m*2 ^ a=p;generalize n*2 ^ b=q;cases s <;> cases t <;> simp[Int.neg_mul,Int.mul_neg]
theorem abW (s t:Bool) (m n:Nat) (i j:Int):∃ sg,((Datum.number s m i).sum (.number t n j)).map Ieee.double.write=some (Ieee.double.nearest sg (signed s m (i - min i j).toNat+signed t n (j - min i j).toNat).natAbs (min i j)) /\
  (signed s m (i - min i j).toNat+signed t n (j - min i j).toNat ≠ 0->sg=decide (signed s m (i - min i j).toNat+signed t n (j - min i j).toNat<0)):=by
 refine⟨_,rfl,λh=>?_⟩;rw[if_neg h];congr
theorem Gx (t:Bool) (n k:Nat):signed (!t) n k = - signed t n k:=by unfold signed; cases t <;> simp
end Go.Mach
end
