/-
  PURE: laws of the seat's functions, taken over from another seat of mine.
  Conditions: none.
-/
import Derived.Test.YtadejnnigmcpdaaGreatDoorL1
set_option linter.unusedVariables false
namespace Go.Proofs.YtadejnnigmcpdaaGreatDoor
open Go Go.Mach Ieee
theorem KN (V x Bk bk i k:Nat):V%4294967296 ^ (i+k+1)+x*(Bk+4294967296 ^ k*bk)*4294967296 ^ i=(V%4294967296 ^ (i+k)+x*Bk*4294967296 ^ i)+4294967296 ^ (i+k)*(V / 4294967296 ^ (i+k)%4294967296+x*bk):=by rw[Nat.mod_pow_succ,Nat.pow_add];grind
theorem E3 (V x Bk bk i k:Nat):(V%4294967296 ^ (i+k+1)+x*(Bk+4294967296 ^ k*bk)*4294967296 ^ i) / 4294967296 ^ (i+k+1)=((V%4294967296 ^ (i+k)+x*Bk*4294967296 ^ i) / 4294967296 ^ (i+k)+V / 4294967296 ^ (i+k)%4294967296+x*bk) / 4294967296:=by rw[KN,Nat.pow_succ,<- Nat.div_div_eq_div_mul,Nat.add_mul_div_left _ _ (Nat.pow_pos (by decide)),Nat.add_assoc]
theorem CW (V x Bk bk i k R:Nat):(V+x*(Bk+4294967296 ^ k*bk+4294967296 ^ (k+1)*R)*4294967296 ^ i) / 4294967296 ^ (i+k)%4294967296=((V%4294967296 ^ (i+k)+x*Bk*4294967296 ^ i) / 4294967296 ^ (i+k)+V / 4294967296 ^ (i+k)%4294967296+x*bk)%4294967296:=by
 have e:V+x*(Bk+4294967296 ^ k*bk+4294967296 ^ (k+1)*R)*4294967296 ^ i=(V%4294967296 ^ (i+k+1)+x*(Bk+4294967296 ^ k*bk)*4294967296 ^ i)+4294967296 ^ (i+k+1)*(V / 4294967296 ^ (i+k+1)+x*R):=by
  have h:=Nat.div_add_mod V (4294967296 ^ (i+k+1));have h2:4294967296 ^ (i+k+1)=4294967296 ^ (k+1)*4294967296 ^ i:=by rw[<- Nat.pow_add]; congr 1; omega
  generalize V / 4294967296 ^ (i+k+1)=q at *;generalize V%4294967296 ^ (i+k+1)=r at *;rw[<- h,h2];grind
 rw[qX e,KN,Nat.add_mul_div_left _ _ (Nat.pow_pos (by decide)),Nat.add_assoc]
theorem Q7 {V x Bk i k:Nat} (hx:x<4294967296) (hB:Bk<4294967296 ^ k):(V%4294967296 ^ (i+k)+x*Bk*4294967296 ^ i) / 4294967296 ^ (i+k)<4294967296:=by
 rw[Nat.div_lt_iff_lt_mul (Nat.pow_pos (by decide))];have h1:V%4294967296 ^ (i+k)<4294967296 ^ (i+k):=Nat.mod_lt _ (Nat.pow_pos (by decide));have h2:x*Bk<=4294967295*4294967296 ^ k:=Nat.mul_le_mul (by omega) (by omega);have h3:x*Bk*4294967296 ^ i<=4294967295*4294967296 ^ (i+k):=by
  have:=Nat.mul_le_mul_right (4294967296 ^ i) h2
  rwa [Nat.mul_assoc 4294967295,<- Nat.pow_add,Nat.add_comm k i]at this
 omega
theorem ZC (S:Nat) {L i:Nat} (h:i<L):(dl S L).getD i 0=((S / 4294967296 ^ i%4294967296:Nat):Int):=by
 induction L with
 | zero=>omega
 | succ L ih=>
  show((dl S L)++[_]).getD i 0=_;rw[List.getD_eq_getElem?_getD];by_cases hi:i<L
  ·rw[List.getElem?_append_left (by rw[aL]; exact hi),<- List.getD_eq_getElem?_getD,ih hi]
  ·have:i=L:=by omega
   subst this;rw[List.getElem?_append_right (by rw[aL]; exact Nat.le_refl _),aL,Nat.sub_self]; rfl
theorem Av {l:List Int} {n:Nat} (h:n<l.length):l.drop n=l.getD n 0::l.drop (n+1):=by rw[List.drop_eq_getElem_cons h,List.getD_eq_getElem?_getD,List.getElem?_eq_getElem h]; rfl
theorem mH {b:List Int} {k:Nat}:aO (b.take (k+1))=aO (b.take k)+4294967296 ^ k*(b.getD k 0).toNat:=bQ k
theorem wR (U V L p:Nat) (h:p<L):(dl U p++(dl V L).drop p).set p ((U / 4294967296 ^ p%4294967296:Nat):Int)=dl U (p+1)++(dl V L).drop (p+1):=by rw[Av (by rw[aL]; exact h),kL _ _ _ _ _ (by rw[aL])];show _=(dl U p++[_])++_;rw[List.append_assoc]; rfl
theorem Fa (U V L p:Nat) (h:p<L):(dl U p++(dl V L).drop p).getD p 0=((V / 4294967296 ^ p%4294967296:Nat):Int):=by rw[Av (by rw[aL]; exact h),nk (by rw[aL]),ZC V h]
theorem wQ (U V L p:Nat) (h:p<=L):(dl U p++(dl V L).drop p).length=L:=by simp[aL]; omega
theorem N9 {U L p:Nat} (hU:U<4294967296 ^ p) (h:p<=L) {V:Nat} (hV:V<4294967296 ^ p):dl U p++(dl V L).drop p=dl U L:=by
 induction L with
 | zero=>
  have:p=0:=by omega
  subst this; rfl
 | succ L ih=>
  by_cases hp:p=L+1
  ·subst hp; rw[List.drop_of_length_le (by rw[aL]; omega),List.append_nil]
  ·have hpL:p<=L:=by omega
   have e:∀ X,X<4294967296 ^ p->dl X (L+1)=dl X L++[0]:=by intro X hX;show dl X L++[((X / 4294967296 ^ L%4294967296:Nat):Int)]=_;rw[Nat.div_eq_of_lt (Nat.lt_of_lt_of_le hX (Nat.pow_le_pow_right (by decide) hpL))]; rfl
   rw[e V hV,e U hU,List.drop_append_of_le_length (by rw[aL]; exact hpL),<- List.append_assoc,ih hpL]
theorem pU {a:List Int} (ha:InW a) (i:Nat):aO (a.take i)<4294967296 ^ i:=df ha i
theorem me {x y i j:Nat} (hx:x<4294967296 ^ i) (hy:y<4294967296 ^ j):x*y<4294967296 ^ (i+j):=by rw[Nat.pow_add];exact Nat.mul_lt_mul'' hx hy
theorem OI {N:Nat} (a b:List Int) (ha:InW a) (hb:InW b) (hN:a.length+b.length+2<N) (hs:a.length+b.length<=17592186044416) (k:List Int->Bool):DU N a b k=k (ao (aO a*aO b)):=by
  unfold DU JT;have eL:Int.toNat (((a.length:Nat):Int)+((b.length:Nat):Int))=a.length+b.length:=by omega
  rw[al (aq (by omega) (by omega)),al (oq (by omega) (by omega) (by omega) (by omega)),eL]
  let L:=a.length+b.length
  let B:=aO b
  have hB:B<4294967296 ^ b.length:=fC hb;refine gn (λi=>((i:Int),dl (aO (a.take i)*B) L)) a.length ?_ (by omega) (λi hi K=>?_) (λK=>?_)
  · show((0:Int),List.replicate L (0:Int))=(((0:Nat):Int),dl (aO (a.take 0)*B) L)
    have:=wS L 0;rw[Nat.mul_zero]at this;rw[List.take_zero,show aO []=0 from rfl,Nat.zero_mul,this]; rfl
  · simp only[gR]
    rw[decide_eq_true (by omega:(i:Int)<a.length),cond_true];have hx:=ha.at (i:=i)
    let V:=aO (a.take i)*B
    let x:=(a.getD i 0).toNat
    let U:=aO (a.take (i+1))*B
    have hU:U=V+x*B*4294967296 ^ i:=by simp only[U,V,x];rw[mH];grind
    have hV:V<4294967296 ^ (i+b.length):=me (pU ha i) hB;have hUl:U<4294967296 ^ (i+1+b.length):=me (pU ha (i+1)) hB
    let c:=λj=>(V%4294967296 ^ (i+j)+x*aO (b.take j)*4294967296 ^ i) / 4294967296 ^ (i+j)
    refine gn (λj=>(((c j:Nat):Int),(j:Int),dl U (i+j)++(dl V L).drop (i+j))) b.length ?_ (by omega) (λj hj K'=>?_) (λK'=>?_)
    · show((0:Int),(0:Int),dl V L)=_
      have h0:c 0=0:=by simp only[c,List.take_zero,show aO []=0 from rfl,Nat.mul_zero,Nat.zero_mul,Nat.add_zero];exact Nat.div_eq_of_lt (Nat.mod_lt _ (Nat.pow_pos (by decide)))
      have hlow:dl U i=dl V i:=by
        have:∀ n,n<=i->dl U n=dl V n:=by
          intro n;induction n with
          | zero=>intro _; rfl
          | succ n ih=>
            intro hn;show dl U n++[_]=dl V n++[_];rw[ih (by omega)];congr 3;have:U=V+4294967296 ^ (n+1)*(x*B*4294967296 ^ (i - (n+1))):=by rw[hU,Nat.mul_left_comm,<- Nat.pow_add,show n+1+(i - (n+1))=i by omega]
            exact qX this
        exact this i (Nat.le_refl _)
      have hsp:dl V i++(dl V L).drop i=dl V L:=by
        have:∀ n,i<=n->dl V i++(dl V n).drop i=dl V n:=by
          intro n;induction n with
          | zero=>intro h; have:i=0:=(by omega); subst this; rfl
          | succ n ih=>
            intro h;by_cases hn:i=n+1
            · subst hn; rw[List.drop_of_length_le (by rw[aL]; omega),List.append_nil]
            · show dl V i++(dl V n++[_]).drop i=dl V n++[_]
              rw[List.drop_append_of_le_length (by rw[aL]; omega),<- List.append_assoc,ih (by omega)]
        exact this L (by simp only[L]; omega)
      rw[h0,Nat.add_zero,hlow,hsp]; rfl
    · have hy:=hb.at (i:=j)
      have hp:i+j<L:=by simp only[L]; omega
      have hlen:=wQ U V L (i+j) (by omega);have hget:=Fa U V L (i+j) hp;have hset:=wR U V L (i+j) hp;have hc:=Q7 (V:=V) (x:=x) (i:=i) (k:=j) (Bk:=aO (b.take j)) (by simp only[x]; omega) (pU hb j);have hstep:=E3 V x (aO (b.take j)) (b.getD j 0).toNat i j;obtain⟨R,hR⟩:=dC b (j+1);have hdig:=CW V x (aO (b.take j)) (b.getD j 0).toNat i j R;rw[<- mH]at hstep hdig;rw[<- hR]at hdig;have hUe:V+x*aO b*4294967296 ^ i=U:=hU.symm;rw[hUe]at hdig;have hxy:x*(b.getD j 0).toNat<=4294967295*4294967295:=Nat.mul_le_mul (by simp only[x]; omega) (by omega);have eidx:Int.toNat ((i:Int)+(j:Int))=i+j:=by omega
      have hcj:∀ n,c n=(V%4294967296 ^ (i+n)+x*aO (b.take n)*4294967296 ^ i) / 4294967296 ^ (i+n):=λ_=>rfl
      have hax:a.getD i 0=(x:Int):=by simp only[x]; omega
      have hby:b.getD j 0=((b.getD j 0).toNat:Int):=by omega
      simp only[gS,Int.toNat_natCast,eidx,hlen,hget];rw[decide_eq_true (by omega:(j:Int)<b.length),cond_true,al (aQ (by omega) (by omega)),al (aQ (by omega) (by omega)),al (aq (by omega) (by omega)),al (aQ (by omega) (by omega)),al (decide_eq_true (by omega)),al (aq (by omega) (by omega)),al (aQ (by omega) (by omega)),al (decide_eq_true (by omega)),al (aq (by omega) (by omega))];have ec1:c (j+1)=(c j+V / 4294967296 ^ (i+j)%4294967296+x*(b.getD j 0).toNat) / 4294967296:=hstep;have ed:U / 4294967296 ^ (i+j)%4294967296=(c j+V / 4294967296 ^ (i+j)%4294967296+x*(b.getD j 0).toNat)%4294967296:=hdig;have hcl:c j<4294967296:=hc;rw[ed]at hset;have vlt:V / 4294967296 ^ (i+j)%4294967296<4294967296:=Nat.mod_lt _ (by decide);rw[hax,hby,show i+(j+1)=i+j+1 by omega,<- hset];generalize V / 4294967296 ^ (i+j)%4294967296=v at *;generalize (b.getD j 0).toNat=y at *;generalize dl U (i+j)++(dl V L).drop (i+j)=l at *;have et:∀ q:Nat,q=c j+v+x*y->IntKind.wrap .u64 ((IntKind.wrap .u64 ((IntKind.wrap .u64 ((IntKind.wrap .u64 (x:Int))*(IntKind.wrap .u64 (y:Int))))+(IntKind.wrap .u64 (v:Int))))+((c j:Nat):Int))=(q:Int):=by
        intro q hq;have exy:((x:Int))*(y:Int)=((x*y:Nat):Int):=by rw[Int.natCast_mul]
        have hxl:x<4294967296:=by simp only[x]; omega
        have hyl:y<4294967296:=by omega
        have w1:IntKind.wrap .u64 (x:Int)=x:=by rw[bI]; omega
        have w2:IntKind.wrap .u64 (y:Int)=y:=by rw[bI]; omega
        rw[w1,w2,exy,bI,bI,bI,bI];omega
      rw[et _ rfl,ec1,w8,kg];congr 1
    · simp only[gS]
      rw[decide_eq_false (by omega:¬(b.length:Int)<b.length),cond_false];have hlen:=wQ U V L (i+b.length) (by simp only[L]; omega);have hset:=wR U V L (i+b.length) (by simp only[L]; omega);have eidx:Int.toNat ((i:Int)+(b.length:Int))=i+b.length:=by omega
      have hLe:i+b.length<L:=by simp only[L]; omega
      have hc:c b.length=U / 4294967296 ^ (i+b.length):=by simp only[c];rw[List.take_length,Nat.mod_eq_of_lt hV,hU]
      have hcl:U / 4294967296 ^ (i+b.length)<4294967296:=by
        rw[Nat.div_lt_iff_lt_mul (Nat.pow_pos (by decide))];have:i+1+b.length=i+b.length+1:=by omega
        rw[this,Nat.pow_succ]at hUl;omega
      have ew:IntKind.wrap .u32 ((c b.length:Nat):Int)=((U / 4294967296 ^ (i+b.length)%4294967296:Nat):Int):=by rw[kg,hc]; omega
      have hfin:=N9 (U:=U) (V:=V) (L:=L) (p:=i+b.length+1) (by rw[show i+b.length+1=i+1+b.length by omega]; exact hUl) (by omega) (Nat.lt_of_lt_of_le hV (Nat.pow_le_pow_right (by decide) (by omega)));rw[al (aq (by omega) (by omega)),eidx,hlen,al (aQ (by omega) (by omega)),al (decide_eq_true (by omega)),al (aq (by omega) (by omega)),ew,hset,hfin];rfl
  · simp only[gR]
    rw[decide_eq_false (by omega:¬(a.length:Int)<a.length),cond_false,List.take_length,fB _ (ui _ _) (by rw[aL]; simp only[L]; omega) (by rw[aL]; simp only[L]; omega)];rw[qY (me (fC ha) hB)]
theorem TP (g h:Bool) (m n:Nat):dK (g != h) (m*n)=dK g m*dK h n:=by unfold dK;rw[Int.natCast_mul];cases g <;> cases h <;> simp[Int.neg_mul,Int.mul_neg]
theorem FD {N:Nat} (b g h:Bool) (m n:Nat) (hN:(ao m).length+(ao n).length+4<N) (hs:(ao m).length+(ao n).length<=17592186044416) (k:Bool->List Int->Bool) :
  abL N b g (ao m) h (ao n) k=kj (dK g m*dK h n) k:=by
 unfold abL Zh;have hl:(ao (m*n)).length<=(ao m).length+(ao n).length:=by
  refine iG _ _ (me ?_ ?_)
  ·have:=fC (aK m); rwa [aC]at this
  ·have:=fC (aK n); rwa [aC]at this
 rw[OI _ _ (aK m) (aK n) (by omega) hs,aC,aC,gp _ _ _ (aK _) ⟨by omega,by omega⟩,aC,mo _ _ k,TP]
theorem C6 (n:Nat):eo (ao n) (ao n).length=(ao n).length:=by
 have ht:(ao n).take (eo (ao n) (ao n).length)=ao n:=by rw[nR (aK n),aC]
 have hc:=oa (ao n) (ao n).length;have:=congrArg List.length ht;rw[List.length_take]at this; omega
theorem KQ (g:Bool) (n:Nat) (k:Bool->List Int->Bool):cond ((!g)==true) (k (decide (((ao n).length:Int)>0)) (ao n)) (k false (ao n))=kj (-(dK g n)) k:=by rw[Um,mo _ _ k];congr 1;unfold dK; cases g <;> simp
theorem AG {N:Nat} (b g:Bool) (n:Nat) (hN:bv N (ao n)) (k:Bool->List Int->Bool):K9 N b g (ao n) k=kj (-(dK g n)) k:=by unfold K9 JO UQ Qt;obtain⟨h1,h2⟩:=hN;rw[List.nil_append,decide_eq_true (by omega),Bool.true_and,oe _ (by omega) (by omega),C6];simp only[List.drop_zero,List.take_length];rw[decide_eq_true (by omega:0+(ao n).length<=(ao n).length),Bool.true_and];exact KQ g n k
theorem AH {N:Nat} (g:Bool) (n:Nat) (hN:bv N (ao n)) (k:Bool->List Int->Bool):Lh N g (ao n) k=kj (-(dK g n)) k:=by unfold Lh JW Uy JZ;obtain⟨h1,h2⟩:=hN;rw[List.nil_append,decide_eq_true (by omega),Bool.true_and,oe _ (by omega) (by omega),C6];simp only[List.drop_zero,List.take_length];rw[decide_eq_true (by omega:0+(ao n).length<=(ao n).length),Bool.true_and];exact KQ g n k
theorem FC {N:Nat} (b g1:Bool) (n1:Nat) (g2:Bool) (n2:Nat) (h1:bv N (ao n1)) (h2:bv N (ao n2)) (h3:bv N (ao (n1+n2))) (k:Bool->List Int->Bool) :
  D6 N b g1 (ao n1) g2 (ao n2) k=kj (dK g1 n1+dK g2 n2) k:=by
 unfold D6 Y4;rw[AM false b g1 n1 g2 n2 h1 h2 h3]; rfl
def dt (B:Nat) (n:Nat):Prop:=n<2 ^ B
theorem qP {B n:Nat} (h:dt B n):(ao n).length<=B / 32+1:=by refine iG _ _ ?_;rw[Ul];exact Nat.lt_of_lt_of_le h (Nat.pow_le_pow_right (by decide) (by omega))
theorem ib {N B n:Nat} (hN:1000<=N) (hB:B<=31000) (h:dt B n):bv N (ao n):=by have:=qP h;exact⟨by omega,by omega⟩
theorem ia {A B n:Nat} (h:dt A n) (hAB:A<=B):dt B n:=Nat.lt_of_lt_of_le h (Nat.pow_le_pow_right (by decide) hAB)
theorem qQ {A B m n:Nat} (h:dt A m) (g:dt B n):dt (A+B) (m*n):=by unfold dt; rw[Nat.pow_add]; exact Nat.mul_lt_mul'' h g
theorem pw {A m:Nat} (h:dt A m) (s:Nat):dt (A+s) (m*2 ^ s):=by unfold dt; rw[Nat.pow_add]; exact Nat.mul_lt_mul_of_pos_right h (Nat.two_pow_pos s)
theorem CQ {A m n:Nat} (h:dt A m) (g:dt A n):dt (A+1) (m+n):=by unfold dt at *; rw[Nat.pow_succ]; omega
theorem qO {A m n:Nat} (h:dt A m) (g:n<=m):dt A n:=Nat.lt_of_le_of_lt g h
theorem NY {N B n s:Nat} (hN:1000<=N) (hB:B+s<=31000) (h:dt B n):abV N n s:=by have h1:=qP h;exact⟨by omega,by omega,by omega,ib hN hB (pw h s)⟩
def exK (z:Int × Int) (k:Int->Bool->List Int->Bool):Bool:=k z.1 (decide (z.2<0)) (ao z.2.natAbs)
def nh (x y:Int × Int):Int × Int:=(x.1+y.1,x.2*y.2)
def iH (x:Int × Int):Int × Int:=(x.1,-x.2)
def ng (x:Int × Int) (e:Int):Int:=x.2*2 ^ (x.1 - e).toNat
def fM (x y:Int × Int):Int × Int:=if x.2=0 then y else if y.2=0 then x else(min x.1 y.1,ng x (min x.1 y.1)+ng y (min x.1 y.1))
def Ex (E B:Nat) (x:Int × Int):Prop:=-(E:Int)<=x.1/\x.1<=E/\dt B x.2.natAbs
def oG (z:Int):Int:=if z=0 then 0 else if z<0 then -1 else 1
theorem abc (a b:Int):imm false a b=min a b:=by
 unfold imm; simp only[cond_false];by_cases h:b<a
 ·rw[decide_eq_true h,cond_true]; omega
 ·rw[decide_eq_false h,cond_false]; omega
def dW:Nat->Nat->Int->Nat × Int
 | 0,m,e=>(m,e)
 | f+1,m,e=>if m%2=0 then dW f (m / 2) (e+1)else(m,e)
theorem j9:∀ f m e,m ≠ 0->m<2 ^ f->e<=(dW f m e).2/\(dW f m e).2<=e+f/\(dW f m e).1*2 ^ ((dW f m e).2 - e).toNat=m/\(dW f m e).1<=m
 | 0,m,e,h0,h=>by simp at h; omega
 | f+1,m,e,h0,h=>by
  unfold dW;split
  ·rename_i hm;obtain⟨h1,h2,h3,h4⟩:=j9 f (m / 2) (e+1) (by omega) (by rw[Nat.pow_succ]at h; omega);refine⟨by omega,by omega,?_,by omega⟩;have:((dW f (m / 2) (e+1)).2 - e).toNat=((dW f (m / 2) (e+1)).2 - (e+1)).toNat+1:=by omega
   rw[this,Nat.pow_succ,<- Nat.mul_assoc,h3]; omega
  ·refine⟨by omega,by omega,?_,Nat.le_refl _⟩;rw[Int.sub_self]; simp
theorem abk {N:Nat} (hN:1000<=N) {m:Nat} {e:Int} (h0:m ≠ 0) (hm:m<2 ^ 64) (he1 : -2000<=e) (he2:e<=2000) (k:Int->Int->Bool) :
  xY N m e k=k ((dW 64 m e).1:Int) (dW 64 m e).2:=by
 unfold xY Cw;have key:∀ f:Nat,f<=64 -> ∀(m:Nat) (e:Int),m ≠ 0->m<2 ^ f->m<2 ^ 64 -> -2000<=e->e+f<=3000 -> ∀ M:Nat,f<M->aH M (gT N λa b=>k a b) ((m:Int),e)=k ((dW f m e).1:Int) (dW f m e).2:=by
  intro f;induction f with
  | zero=>intro _ m e h0 h; simp at h; omega
  | succ f ih=>
   intro hf m e h0 h h64 h1 h2 M hM;cases M with
   | zero=>omega
   | succ M=>
    show gT N _ ((m:Int),e) (aH M _)=_;have e2:Int.tmod (m:Int) 2=((m%2:Nat):Int):=by rw[Int.tmod_eq_emod_of_nonneg (by omega)]; rfl
    have e3:Int.tdiv (m:Int) 2=((m / 2:Nat):Int):=by rw[Int.tdiv_eq_ediv_of_nonneg (by omega)]; rfl
    simp only[gT,dW,e2,e3];by_cases hm:m%2=0
    ·have:(((m%2:Nat):Int)==0)=true:=by rw[hm]; rfl
     have ew:IntKind.wrap .u64 ((m / 2:Nat):Int)=((m / 2:Nat):Int):=by
      rw[bI];have:(2:Nat) ^ 64=18446744073709551616:=by decide
      omega
     rw[this,cond_true,al (aq (by omega) (by omega)),if_pos hm,ew];exact ih (by omega) (m / 2) (e+1) (by omega) (by rw[Nat.pow_succ]at h; omega) (by omega) (by omega) (by omega) M (by omega)
    ·have:(((m%2:Nat):Int)==0)=false:=by
      have:m%2=1:=by omega
      rw[this]; rfl
     rw[this,cond_false,if_neg hm]
 have:((m:Int)==0)=false:=by simp; omega
 rw[this,cond_false];exact key 64 (Nat.le_refl _) m e h0 hm hm (by omega) (by omega) N (by omega)
theorem TW (N:Nat) (e:Int) (k:Int->Int->Bool):xY N 0 e k=k 0 0:=by unfold xY Cw; rfl
def ofE (x:Fl):Int × Int:=match x with
 | some b=>match Ieee.double.read b with
  | .number s m i=>if m=0 then(0,0)else((dW 64 m i).2,dK s (dW 64 m i).1)
  | _=>(0,0)
 | none=>(0,0)
theorem wk {b:Nat} {s:Bool} {m:Nat} {i:Int} (h:Ieee.double.read b=.number s m i):ofE (some b)=if m=0 then(0,0)else((dW 64 m i).2,dK s (dW 64 m i).1):=by unfold ofE; simp only[h]
theorem Ov {N:Nat} (hN:1000<=N) {b:Nat} (hb:W64 b) {s:Bool} {m:Nat} {i:Int} (h:Ieee.double.read b=.number s m i) (k:Bool->Int->Int->Int->Bool) :
    Lm N (some b) k=if m=0 then k s 0 0 0 else k s ((dW 64 m i).1:Int) (dW 64 m i).2 0:=by
  obtain⟨h1,h2,h3⟩:=cE h;have hpl:=dn h;have hnn:isNaN b=false:=by rw[Bool.eq_false_iff]; intro hc; have:=(fA b).1 hc; omega
  have hbits:kS (some b)=b:=by simp only[kS,cnb,hnn]; rfl
  have hsg:(Int.fdiv (b:Int) (2 ^ 63)==1)=s:=by
    have e:(2:Int) ^ 63=((9223372036854775808:Nat):Int):=by decide
    rw[e,k8,h1];have hW:b / 9223372036854775808<2:=by have:=hb; omega
    have:b / 9223372036854775808=0\/b / 9223372036854775808=1:=by omega
    rcases this with h | h <;> rw[h] <;> rfl
  have fin:∀(e:Int),i=e - 1074 -> -1100<=e->e<=2100->CC N (A3 N) (xY N) (some b) s e (m:Int) k=if m=0 then k s 0 0 0 else k s ((dW 64 m i).1:Int) (dW 64 m i).2 0:=by
    intro e he h5 h6;unfold CC;rw[al (aq (by omega) (by omega)),<- he];by_cases h0:m=0
    · subst h0; rw[if_pos rfl]; exact TW N i _
    · rw[if_neg h0,abk hN h0 (by have:(2:Nat) ^ 64=18446744073709551616:=(by decide); omega) (by omega) (by omega)]
  unfold Lm zA;rw[AJ,hbits];rw[hsg];have n2047:(((b / 4503599627370496%2048:Nat):Int)==2047)=false:=by simp; omega
  rw[n2047,cond_false];rcases h3 with⟨g1,g2,g3⟩ | ⟨g1,g2,g3⟩
  · have e0:b / 4503599627370496%2048=0:=by omega
    have e1:b%4503599627370496=m:=by omega
    rw[e0,e1,decide_eq_false (by decide),cond_false];exact fin 0 (by omega) (by omega) (by omega)
  · have e0:0<b / 4503599627370496%2048:=by omega
    have e1:IntKind.wrap .u64 (((b%4503599627370496:Nat):Int)+4503599627370496)=(m:Int):=by rw[bI]; omega
    rw[decide_eq_true (by omega:((b / 4503599627370496%2048:Nat):Int)>0),cond_true,al (aq (by omega) (by omega)),e1];exact fin _ (by omega) (by omega) (by omega)
theorem uz {N:Nat} (hN:1000<=N) {x:Fl} (hx:ar x=true) (hw:FW x) (k:Int->Bool->List Int->Bool):rO N x k=exK (ofE x) k:=by
  obtain⟨b,s,m,i,rfl,h⟩:=aG hx;have hb:=hw b rfl;unfold rO J3;rw[Ov hN hb h,wk h];by_cases h0:m=0
  · rw[if_pos h0,if_pos h0]
    have:∀ κ,O5 N 0 false κ=κ false (ao 0):=λκ=>iA (N:=N) 0 (by decide) false (aS hN (by decide)) (by omega) κ
    rw[this];cases s
    · rw[cond_false]; unfold exK; rfl
    · rw[cond_true,AH _ _ (aS hN (by decide))]; unfold exK kj; rfl
  · rw[if_neg h0,if_neg h0]
    have hpl:=dn h;obtain⟨g1,g2,g3,g4⟩:=j9 64 m i h0 (by have:(2:Nat) ^ 64=18446744073709551616:=(by decide); omega);have hs:=aS (N:=N) (n:=(dW 64 m i).1) hN (by omega);rw[iA (N:=N) _ (by omega) false hs (by omega)];cases s
    · rw[cond_false]
      show _=k (dW 64 m i).2 (decide ((((dW 64 m i).1:Nat):Int)<0)) (ao (((dW 64 m i).1:Nat):Int).natAbs);rw[decide_eq_false (by omega),Int.natAbs_natCast]
    · rw[cond_true,AH _ _ hs]; rfl
def EV (x:Int × Int) (v:Int) (E:Nat):Prop:=0<=x.1+E/\x.2*2 ^ (x.1+E).toNat=v
theorem EV.up {x:Int × Int} {v:Int} {E:Nat} (h:EV x v E) (F:Nat):EV x (v*2 ^ F) (E+F):=by
 obtain⟨h1,h2⟩:=h;refine⟨by omega,?_⟩;have:(x.1+((E+F:Nat):Int)).toNat=(x.1+E).toNat+F:=by omega
 rw[this,Int.pow_add,<- Int.mul_assoc,h2]
theorem EV.mul {x y:Int × Int} {v w:Int} {E F:Nat} (h:EV x v E) (g:EV y w F):EV (nh x y) (v*w) (E+F):=by
 obtain⟨h1,h2⟩:=h;obtain⟨g1,g2⟩:=g;refine⟨by simp only[nh]; omega,?_⟩;have:((nh x y).1+((E+F:Nat):Int)).toNat=(x.1+E).toNat+(y.1+F).toNat:=by simp only[nh]; omega
 rw[this,Int.pow_add,<- h2,<- g2];simp only[nh];ac_rfl
theorem EV.neg {x:Int × Int} {v:Int} {E:Nat} (h:EV x v E):EV (iH x) (-v) E:=⟨h.1,by rw[<- h.2]; exact Int.neg_mul _ _⟩
theorem Ay {x:Int × Int} {v:Int} {E:Nat} (h:EV x v E) {e:Int} (he:e<=x.1) (hE:0<=e+E):ng x e*2 ^ (e+E).toNat=v:=by unfold ng;rw[Int.mul_assoc,<- Int.pow_add,show(x.1 - e).toNat+(e+E).toNat=(x.1+E).toNat by omega];exact h.2
theorem EV.add {x y:Int × Int} {v w:Int} {E:Nat} (h:EV x v E) (g:EV y w E):EV (fM x y) (v+w) E:=by
 unfold fM;split
 ·rename_i h0;have:v=0:=by rw[<- h.2,h0,Int.zero_mul]
  rw[this,Int.zero_add]; exact g
 ·split
  ·rename_i h0;have:w=0:=by rw[<- g.2,h0,Int.zero_mul]
   rw[this,Int.add_zero]; exact h
  ·have hE:0<=min x.1 y.1+E:=by have:=h.1; have:=g.1; omega
   exact⟨hE,by rw[Int.add_mul,Ay h (by omega) hE,Ay g (by omega) hE]⟩
theorem EV.sgn {x:Int × Int} {v:Int} {E:Nat} (h:EV x v E):oG x.2=oG v:=by
 rw[<- h.2];have hp:=Uk (x.1+E).toNat;unfold oG;rcases Int.lt_trichotomy x.2 0 with h | h | h
 ·have:=Int.mul_neg_of_neg_of_pos h hp;rw[if_neg (by omega),if_pos h,if_neg (by omega),if_pos this]
 ·rw[h,Int.zero_mul]
 ·have:=Int.mul_pos h hp;rw[if_neg (by omega),if_neg (by omega),if_neg (by omega),if_neg (by omega)]
theorem Is (E:Nat):EV (0,0) 0 E:=⟨by simp only[]; omega,Int.zero_mul _⟩
theorem Ex.mono {E B E' B':Nat} {x:Int × Int} (h:Ex E B x) (hE:E<=E') (hB:B<=B'):Ex E' B' x:=⟨by have:=h.1; omega,by have:=h.2.1; omega,ia h.2.2 hB⟩
theorem Ex.mul {E B E' B':Nat} {x y:Int × Int} (h:Ex E B x) (g:Ex E' B' y):Ex (E+E') (B+B') (nh x y):=
 ⟨by have:=h.1; have:=g.1; simp only[nh]; omega,by have:=h.2.1; have:=g.2.1; simp only[nh]; omega,by show dt _ (x.2*y.2).natAbs;rw[Int.natAbs_mul]; exact qQ h.2.2 g.2.2⟩
theorem Ex.neg {E B:Nat} {x:Int × Int} (h:Ex E B x):Ex E B (iH x):=⟨h.1,h.2.1,by show dt _ (-x.2).natAbs; rw[Int.natAbs_neg]; exact h.2.2⟩
theorem rE {E B:Nat} {x:Int × Int} (h:Ex E B x) {e:Int} (he : -(E:Int)<=e):dt (B+2*E) (ng x e).natAbs:=by unfold ng;rw[Int.natAbs_mul,Int.natAbs_pow];refine ia (pw h.2.2 _) ?_;have:=h.2.1; omega
theorem Ex.add {E B:Nat} {x y:Int × Int} (h:Ex E B x) (g:Ex E B y):Ex E (B+2*E+1) (fM x y):=by
 unfold fM;split
 ·exact g.mono (Nat.le_refl _) (by omega)
 ·split
  ·exact h.mono (Nat.le_refl _) (by omega)
  ·refine⟨by have:=h.1; have:=g.1; show -(E:Int)<=min x.1 y.1; omega,by have:=h.2.1; show min x.1 y.1<=E; omega,?_⟩;have h1:=rE h (e:=min x.1 y.1) (by have:=h.1; have:=g.1; omega);have h2:=rE g (e:=min x.1 y.1) (by have:=h.1; have:=g.1; omega);exact qO (CQ h1 h2) (Int.natAbs_add_le _ _)
theorem oc (z:Int) (k:Bool->List Int->Bool):kj z k=k (decide (z<0)) (ao z.natAbs):=rfl
theorem d9 {N:Nat} (hN:1000<=N) {E B:Nat} {x y:Int × Int} (hx:Ex E B x) (hy:Ex E B y) (hE:E<=100000) (hB:B<=15000) (k:Int->Bool->List Int->Bool) :
  sZ0 N x.1 y.1 (decide (x.2<0)) (ao x.2.natAbs) (decide (y.2<0)) (ao y.2.natAbs) k=exK (nh x y) k:=by
 have h1:=qP hx.2.2;have h2:=qP hy.2.2;unfold sZ0 GZ0;rw[FD _ _ _ _ _ (by omega) (by omega),kY,kY,oc,al (aq (by have:=hx.1; have:=hy.1; omega) (by have:=hx.2.1; have:=hy.2.1; omega))];rfl
theorem KI {N:Nat} (hN:1000<=N) {E B:Nat} {x:Int × Int} (hx:Ex E B x) {e:Int} (he : -(E:Int)<=e) (hB:B+2*E<=30000) (k0:Bool) (k1:Bool->List Int->Bool) (h0:x.1<=e->k0=kj x.2 k1) (he2:x.1<=e->e=x.1) :
  O4 N x.1 e (decide (x.2<0)) (ao x.2.natAbs) k0 k1=kj (ng x e) k1:=by
 unfold O4 Y1;have hx1:=hx.1;have hx2:=hx.2.1;by_cases hc:x.1<=e
 ·rw[decide_eq_true (by omega:e>=x.1),cond_true,h0 hc];have:ng x e=x.2:=by unfold ng;rw[he2 hc,Int.sub_self]; simp
  rw[this]
 ·rw[decide_eq_false (by omega:¬ e>=x.1),cond_false,al (aq (by omega) (by omega))];have ew:IntKind.wrap .u64 (x.1 - e)=(((x.1 - e).toNat:Nat):Int):=by rw[bI]; omega
  rw[ew,uy _ _ _ _ (NY hN (by omega) hx.2.2)];congr 1;unfold ng dK;by_cases hz:x.2<0
  ·rw[decide_eq_true hz,if_pos rfl,Int.natCast_mul,Int.natCast_pow,<- Int.neg_mul];congr 1; omega
  ·rw[decide_eq_false hz,if_neg (by decide),Int.natCast_mul,Int.natCast_pow];congr 1; omega
theorem jH {N:Nat} (hN:1000<=N) {E B:Nat} {x y:Int × Int} (hx:Ex E B x) (hy:Ex E B y) (hB:B+2*E<=29000) (k0 k1:Bool) (k2:Int->Bool->List Int->Bool) (h0:k0=exK y k2) (h1:k1=exK x k2) :
  sZ1 N x.1 y.1 (decide (x.2<0)) (ao x.2.natAbs) (decide (y.2<0)) (ao y.2.natAbs) k0 k1 k2=exK (fM x y) k2:=by
 unfold sZ1 GZ1 fM;have z0:∀(z:Int) (g:Bool),((if z.natAbs=0 then(0:Int)else if g=true then -1 else 1)==0)=decide (z=0):=by
  intro z g;by_cases h:z=0
  ·rw[if_pos (by omega),decide_eq_true h]; rfl
  ·rw[if_neg (by omega),decide_eq_false h]; cases g <;> rfl
 rw[im,z0,im,z0];by_cases c0:x.2=0
 ·rw[decide_eq_true c0,cond_true,if_pos c0,h0]
 ·rw[decide_eq_false c0,cond_false,if_neg c0];by_cases c1:y.2=0
  ·rw[decide_eq_true c1,cond_true,if_pos c1,h1]
  ·rw[decide_eq_false c1,cond_false,if_neg c1,abc];have hxe:=hx.1;have hye:=hy.1;have lx:=rE hx (e:=min x.1 y.1) (by omega);have ly:=rE hy (e:=min x.1 y.1) (by omega);have hadd:∀(a b:Int),dt (B+2*E) a.natAbs->dt (B+2*E) b.natAbs->D6 N false (decide (a<0)) (ao a.natAbs) (decide (b<0)) (ao b.natAbs) (λcr nsr=>k2 (min x.1 y.1) cr nsr)=exK (min x.1 y.1,a+b) k2:=by intro a b ha hb;rw[FC _ _ _ _ _ (ib hN (by omega) ha) (ib hN (by omega) hb) (ib hN (by omega) (CQ ha hb)),kY,kY];rfl
   have hyl:∀(a:Int),dt (B+2*E) a.natAbs->O4 N y.1 (min x.1 y.1) (decide (y.2<0)) (ao y.2.natAbs) (D6 N false (decide (a<0)) (ao a.natAbs) (decide (y.2<0)) (ao y.2.natAbs) (λcr nsr=>k2 (min x.1 y.1) cr nsr)) (λg d=>D6 N false (decide (a<0)) (ao a.natAbs) g d (λcr nsr=>k2 (min x.1 y.1) cr nsr))=exK (min x.1 y.1,a+ng y (min x.1 y.1)) k2:=by intro a ha;rw[KI hN hy (by omega) (by omega) _ _ (λ_=>by rw[oc]) (by omega),oc,hadd _ _ ha ly]
   rw[KI hN hx (by omega) (by omega) _ _ (λh=>by rw[oc]) (by omega),oc,hyl _ lx]
theorem Oq {N:Nat} (hN:1000<=N) {E B:Nat} {x y:Int × Int} (hx:Ex E B x) (hy:Ex E B y) (hB:B+2*E<=28000) (k:Int->Bool) :
  Gj N x.1 y.1 (decide (x.2<0)) (ao x.2.natAbs) (decide (y.2<0)) (ao y.2.natAbs) k=k (oG (fM x (iH y)).2):=by
 unfold Gj YT la P6;rw[AG _ _ _ (ib hN (by omega) hy.2.2),kY,oc];have sg:∀(z:Int),nG N (decide (z<0)) (ao z.natAbs) (λnr=>k nr)=k (oG z):=by
  intro z;rw[im];unfold oG;congr 1;by_cases h:z=0
  ·rw[if_pos (by omega),if_pos h]
  ·rw[if_neg (by omega),if_neg h];by_cases hl:z<0
   ·rw[if_pos (decide_eq_true hl),if_pos hl]
   ·rw[if_neg (by rw[decide_eq_false hl]; decide),if_neg hl]
 have:=jH (N:=N) hN hx (Ex.neg hy) (by omega) (nG N (decide (-y.2<0)) (ao (-y.2).natAbs) (λnr=>k nr)) (nG N (decide (x.2<0)) (ao x.2.natAbs) (λnr=>k nr)) (λ_ g d=>nG N g d (λnr=>k nr)) rfl rfl;refine Eq.trans this ?_;unfold exK;exact sg _
def q7 (a b:List Fl):Nat->Int × Int
 | 0=>(0,0)
 | n+1=>fM (q7 a b n) (nh (ofE (a.getD n none)) (ofE (b.getD n none)))
theorem uD {x:Fl} (hx:ar x=true):Ex 1100 53 (ofE x):=by
  obtain⟨b,s,m,i,rfl,h⟩:=aG hx;rw[wk h];have hpl:=dn h;have hpg:=bg h;by_cases h0:m=0
  · rw[if_pos h0]; exact⟨by decide,by decide,Nat.two_pow_pos _⟩
  · rw[if_neg h0]
    obtain⟨g1,g2,g3,g4⟩:=j9 64 m i h0 (by have:(2:Nat) ^ 64=18446744073709551616:=(by decide); omega);refine⟨by show -((1100:Nat):Int)<=(dW 64 m i).2; omega,by show(dW 64 m i).2<=((1100:Nat):Int); omega,?_⟩;show dt 53 (dK s (dW 64 m i).1).natAbs;have:(dK s (dW 64 m i).1).natAbs=(dW 64 m i).1:=by unfold dK; cases s <;> simp
    rw[this];show _<2 ^ 53;have:(2:Nat) ^ 53=9007199254740992:=by decide
    omega
theorem Ud {b:Nat} {s:Bool} {m:Nat} {i:Int} (h:Ieee.double.read b=.number s m i) {E:Nat} (hE:1074<=E):EV (ofE (some b)) (signed s m (i+E).toNat) E:=by
  rw[wk h];have hpg:=bg h;by_cases h0:m=0
  · rw[if_pos h0]; subst h0; rw[bB]; exact Is E
  · rw[if_neg h0]
    have hpl:=dn h;obtain⟨g1,g2,g3,g4⟩:=j9 64 m i h0 (by have:(2:Nat) ^ 64=18446744073709551616:=(by decide); omega);refine⟨by show 0<=(dW 64 m i).2+(E:Int); omega,?_⟩;show dK s (dW 64 m i).1*2 ^ ((dW 64 m i).2+E).toNat=_;generalize dW 64 m i=q at *;have e1:(q.2+E).toNat=(q.2 - i).toNat+(i+E).toNat:=by omega
    unfold dK signed;rw[Nat.shiftLeft_eq,e1,Int.pow_add,<- g3];cases s
    · simp only[Bool.false_eq_true,if_false]
      rw[Int.natCast_mul,Int.natCast_mul,Int.natCast_pow,Int.natCast_pow]; rw[show((2:Nat):Int)=2 from rfl]; ac_rfl
    · simp only[if_true]
      rw[Int.natCast_mul,Int.natCast_mul,Int.natCast_pow,Int.natCast_pow]; rw[show((2:Nat):Int)=2 from rfl];rw[Int.neg_mul]; congr 1; ac_rfl
@[irreducible] def Sc:Nat:=1074
theorem QH:1074<=Sc:=by unfold Sc; exact Nat.le_refl _
theorem QI:Sc<=1074:=by unfold Sc; exact Nat.le_refl _
@[irreducible] def e2:Nat:=4196
theorem ach:e2=2098+2098:=by unfold e2; rfl
theorem Zw {x:Nat} (h:dt (2098+2098) x):x<2 ^ e2:=by
 have h':dt e2 x:=by rw[ach]; exact h
 exact h'
theorem Zv {n x:Nat} (hn:n<=12) (h:x<=n*2 ^ e2):dt 4200 x:=by have h3:n*2 ^ e2<2 ^ 4*2 ^ e2:=Nat.mul_lt_mul_of_pos_right (Nat.lt_of_le_of_lt hn (Nat.le_of_ble_eq_true rfl)) (Nat.two_pow_pos e2);rw[<- Nat.pow_add]at h3;have h4:dt (4+e2) x:=Nat.lt_of_le_of_lt h h3;exact ia h4 (by rw[ach]; omega)
def cZ (x:Fl):Int:=(ofE x).2*2 ^ ((ofE x).1+Sc).toNat
theorem wn {x:Fl} (hx:ar x=true):EV (ofE x) (cZ x) Sc:=by obtain⟨b,s,m,i,rfl,h⟩:=aG hx;exact⟨(Ud h QH).1,rfl⟩
theorem Em {b:Nat} {s:Bool} {m:Nat} {i:Int} (h:Ieee.double.read b=.number s m i):cZ (some b)=signed s m (i+Sc).toNat:=(Ud h QH).2
theorem Nk {x:Fl} (hx:ar x=true):dt 2098 (cZ x).natAbs:=by
 obtain⟨b,s,m,i,rfl,h⟩:=aG hx;rw[Em h,Gv];have hpl:=dn h;have hm:dt 53 m:=by
  show _<2 ^ 53;have:(2:Nat) ^ 53=9007199254740992:=by decide
  omega
 refine ia (pw hm _) ?_;have:=QI; omega
theorem EV.bits {x:Int × Int} {v:Int} {E B:Nat} (h:EV x v E) (g:dt B v.natAbs):dt B x.2.natAbs:=by refine qO g ?_;rw[<- h.2,uY];exact Nat.le_mul_of_pos_right _ (Nat.two_pow_pos _)
def f7 (a b:List Fl):Nat->Int
 | 0=>0
 | n+1=>f7 a b n+cZ (a.getD n none)*cZ (b.getD n none)
def FinL (a:List Fl) (n:Nat):Prop:=∀ i,i<n->ar (a.getD i none)=true/\FW (a.getD i none)
theorem we {a b:List Fl}:∀ n,FinL a n->FinL b n->EV (q7 a b n) (f7 a b n) (Sc+Sc)
 | 0,_,_=>Is _
 | n+1,ha,hb=>(we n (λi hi=>ha i (by omega)) (λi hi=>hb i (by omega))).add ((wn (ha n (by omega)).1).mul (wn (hb n (by omega)).1))
theorem At {a b:List Fl}:∀ n,FinL a n->FinL b n->(f7 a b n).natAbs<=n*2 ^ e2
 | 0,_,_=>by show(0:Int).natAbs<=_; simp
 | n+1,ha,hb=>by have h1:=At n (λi hi=>ha i (by omega)) (λi hi=>hb i (by omega));have h2:=qQ (Nk (ha n (by omega)).1) (Nk (hb n (by omega)).1);show(f7 a b n+cZ (a.getD n none)*cZ (b.getD n none)).natAbs<=_;have h3:=Int.natAbs_add_le (f7 a b n) (cZ (a.getD n none)*cZ (b.getD n none));rw[Int.natAbs_mul]at h3;have h4:=Zw h2;rw[Nat.succ_mul]; omega
theorem ob {x y:Int × Int} {E:Nat} (h1 : -(E:Int)<=x.1) (h2:x.1<=E) (g1 : -(E:Int)<=y.1) (g2:y.1<=E) : -(E:Int)<=(fM x y).1/\(fM x y).1<=E:=by
 unfold fM;split
 ·exact⟨g1,g2⟩
 ·split
  ·exact⟨h1,h2⟩
  ·show -(E:Int)<=min x.1 y.1/\min x.1 y.1<=E;omega
theorem wT {a b:List Fl}:∀ n,FinL a n->FinL b n -> -((2200:Nat):Int)<=(q7 a b n).1/\(q7 a b n).1<=((2200:Nat):Int)
 | 0,_,_=>by show -((2200:Nat):Int)<=0/\(0:Int)<=((2200:Nat):Int); omega
 | n+1,ha,hb=>by have h1:=wT n (λi hi=>ha i (by omega)) (λi hi=>hb i (by omega));have h2:=uD (ha n (by omega)).1;have h3:=uD (hb n (by omega)).1;have a1:=h2.1; have a2:=h2.2.1; have b1:=h3.1; have b2:=h3.2.1;exact ob h1.1 h1.2 (by show -((2200:Nat):Int)<=(ofE (a.getD n none)).1+(ofE (b.getD n none)).1; omega) (by show(ofE (a.getD n none)).1+(ofE (b.getD n none)).1<=((2200:Nat):Int); omega)
theorem ZE {a b:List Fl} {n:Nat} (hn:n<=12) (ha:FinL a n) (hb:FinL b n):Ex 2200 4200 (q7 a b n):=by have h1:=wT n ha hb;refine⟨h1.1,h1.2,(we n ha hb).bits ?_⟩;exact Zv hn (At n ha hb)
theorem FinL.mono {a:List Fl} {n m:Nat} (h:FinL a n) (hm:m<=n):FinL a m:=λi hi=>h i (by omega)
theorem TS {N:Nat} (hN:1000<=N) {a b:List Fl} (hl:a.length=b.length) (hn:a.length<=12) (ha:FinL a a.length) (hb:FinL b a.length) (k:Int->Bool->List Int->Bool) :
  Ly N a b k=exK (q7 a b a.length) k:=by
 unfold Ly Kd UB J2;refine jG (λi=>((i:Int),(q7 a b i).1,decide ((q7 a b i).2<0),ao (q7 a b i).2.natAbs)) a.length ?_ (by omega) (λi hi K=>?_) (λK=>?_)
 ·show((0:Int),(0:Int),false,([]:List Int))=(((0:Nat):Int),(0:Int),decide ((0:Int)<0),ao (0:Int).natAbs);rw[show(0:Int).natAbs=0 from rfl,aX]; rfl
 ·simp only[jA,Int.toNat_natCast];have f1:=ha i hi;have f2:=hb i hi;have d1:=ZE (a:=a) (b:=b) (n:=i) (by omega) (ha.mono (by omega)) (hb.mono (by omega));have e1:=uD f1.1;have e2:=uD f2.1;have em:=(e1.mul e2).mono (E':=2200) (B':=4200) (by omega) (by omega);rw[decide_eq_true (by omega:(i:Int)<((a.length:Nat):Int)),cond_true,al (aQ (by omega) (by omega)),uz hN f1.1 f1.2];unfold exK;dsimp only;rw[al (aQ (by omega) (by omega)),uz hN f2.1 f2.2];unfold exK;dsimp only;rw[d9 hN e1 e2 (by omega) (by omega)];unfold exK;dsimp only;rw[jH hN d1 em (by omega) _ _ (λnr cr nsr=>(aw .i64 ((i:Int)+1))&&K ((i:Int)+1,nr,cr,nsr)) (by rfl) (by rfl)];unfold exK;dsimp only;rw[al (aq (by omega) (by omega))];rfl
 ·simp only[jA];rw[decide_eq_false (by omega),cond_false];rfl
def akU:List Int->Nat
 | []=>0
 | x::r=>x.toNat+18446744073709551616*akU r
def InWq (m:List Int):Prop:=∀ x ∈ m,0<=x/\x<18446744073709551616
def vg (n:Nat):List Int:=if h:n=0 then[]else((n%18446744073709551616:Nat):Int)::vg (n / 18446744073709551616)
termination_by n
decreasing_by omega
theorem E9:vg 0=[]:=by rw[vg]; simp
theorem N7 {n:Nat} (h:n ≠ 0):vg n=((n%18446744073709551616:Nat):Int)::vg (n / 18446744073709551616):=by rw[vg]; simp[h]
theorem InWq.take {m:List Int} (h:InWq m) (n:Nat):InWq (m.take n):=λx hx=>h x (List.mem_of_mem_take hx)
theorem InWq.drop {m:List Int} (h:InWq m) (n:Nat):InWq (m.drop n):=λx hx=>h x (List.mem_of_mem_drop hx)
theorem InWq.cons {x:Int} {m:List Int} (h:InWq (x::m)):(0<=x/\x<18446744073709551616)/\InWq m:=⟨h x (by simp),λy hy=>h y (by simp[hy])⟩
theorem InWq.at {m:List Int} (h:InWq m) {i:Nat}:0<=m.getD i 0/\m.getD i 0<18446744073709551616:=by
 rw[List.getD_eq_getElem?_getD];by_cases hi:i<m.length
 ·rw[List.getElem?_eq_getElem hi]; exact h _ (List.getElem_mem hi)
 ·rw[List.getElem?_eq_none (by omega)]; exact⟨by decide,by decide⟩
def alG (N:Nat) (l:List Int):Prop:=l.length+3<N/\l.length<=1000000
theorem amM (n:Nat):av .and .u64 (n:Int) 4294967295=((n%4294967296:Nat):Int):=by
 have h:=dI n 32 (by decide);have e1:((2 ^ 32 - 1:Nat):Int)=4294967295:=by decide
 have e2:(2:Nat) ^ 32=4294967296:=by decide
 rw[e1,e2]at h;exact h
theorem alE (n:Nat):2 ^ n=18446744073709551616 ^ (n / 64)*2 ^ (n%64):=by
 have e:(18446744073709551616:Nat)=2 ^ 64:=by decide
 rw[e,<- Nat.pow_mul,<- Nat.pow_add];congr 1; omega
theorem E_:∀(i V:Nat),(vg V).getD i 0=((V / 18446744073709551616 ^ i%18446744073709551616:Nat):Int)
 | i,V=>by
  by_cases h:V=0
  ·subst h; rw[E9]; simp
  ·rw[N7 h];cases i with
   | zero=>simp
   | succ i=>
    show(vg (V / 18446744073709551616)).getD i 0=_;rw[E_ i (V / 18446744073709551616),Nat.pow_succ,Nat.mul_comm,<- Nat.div_div_eq_div_mul]
theorem akW:∀ n:Nat,n ≠ 0 -> ∃ t c,n=2 ^ t*(2*c+1):=by
 intro n;induction n using Nat.strongRecOn with
 | ind n ih=>
  intro h0;by_cases h:n%2=0
  ·obtain⟨t,c,hc⟩:=ih (n / 2) (by omega) (by omega);exact⟨t+1,c,by rw[Nat.pow_succ,Nat.mul_comm (2 ^ t) 2,Nat.mul_assoc,<- hc]; omega⟩
  ·exact⟨0,n / 2,by rw[Nat.pow_zero,Nat.one_mul]; omega⟩
theorem OO:∀(f t c:Nat) (e:Int),t<f->dW f (2 ^ t*(2*c+1)) e=(2*c+1,e+t)
 | 0,t,c,e,h=>by omega
 | f+1,0,c,e,h=>by
  unfold dW;rw[Nat.pow_zero,Nat.one_mul,if_neg (by omega)];simp
 | f+1,t+1,c,e,h=>by
  unfold dW;have e1:2 ^ (t+1)*(2*c+1)=2*(2 ^ t*(2*c+1)):=by rw[Nat.pow_succ]; ac_rfl
  rw[e1,if_pos (by omega),Nat.mul_div_cancel_left _ (by decide),OO f t c (e+1) (by omega)];congr 1; omega
theorem N5:∀(i V:Nat),(ao V).getD i 0=((V / 4294967296 ^ i%4294967296:Nat):Int)
 | i,V=>by
  by_cases h:V=0
  ·subst h; rw[aX]; simp
  ·rw[dk h];cases i with
   | zero=>simp
   | succ i=>
    show(ao (V / 4294967296)).getD i 0=_;rw[N5 i (V / 4294967296),Nat.pow_succ,Nat.mul_comm,<- Nat.div_div_eq_div_mul]
def pE (e:Int):Int:=1*2 ^ (e+((Sc+Sc:Nat):Int)).toNat
theorem EV.abs {x:Int × Int} {v:Int} {E:Nat} (h:EV x v E):EV (x.1,((x.2.natAbs:Nat):Int)) ((v.natAbs:Nat):Int) E:=by refine⟨h.1,?_⟩;show((x.2.natAbs:Nat):Int)*2 ^ (x.1+E).toNat=_;rw[<- h.2,uY,Int.natCast_mul,Int.natCast_pow]; rfl
theorem abp {N:Nat} (hN:1000<=N) (k:Bool->List Int->Bool):ms N 1 k=k false [1]:=by
 obtain⟨M,rfl⟩:∃ M,N=M+1000:=⟨N - 1000,by omega⟩
 kernel_rfl
end Go.Proofs.YtadejnnigmcpdaaGreatDoor
