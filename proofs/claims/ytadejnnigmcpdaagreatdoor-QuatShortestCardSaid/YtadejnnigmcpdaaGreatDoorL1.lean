/-
  PURE: laws of the seat's functions, taken over from another seat of mine.
  Conditions: none.
-/
import Derived.Test.YtadejnnigmcpdaaGreatDoorGp
import Derived.Test.YtadejnnigmcpdaaGreatDoorBig
import Derived.Test.YtadejnnigmcpdaaGreatDoorFlA
set_option linter.unusedVariables false
namespace Go.Proofs.YtadejnnigmcpdaaGreatDoor
open Go Go.Mach Ieee
theorem al {a c:Bool} (h:a=true):(a&&c)=c:=by rw[h]; rfl
theorem bI (z:Int):IntKind.wrap .u64 z=z%18446744073709551616:=by rfl
theorem kg (z:Int):IntKind.wrap .u32 z=z%4294967296:=by rfl
theorem w8 (z:Int):Int.fdiv z (2 ^ 32)=z / 4294967296:=by rw[Int.fdiv_eq_ediv_of_nonneg _ (by decide)]; rfl
theorem gn {σ:Type} {step:σ->(σ->Bool)->Bool} {s:σ} (C:Nat->σ) (n:Nat) {N:Nat} (h0:s=C 0) (hn:n<N) {out:Bool} (hs:∀ i,i<n -> ∀ K:σ->Bool,step (C i) K=K (C (i+1))) (hx:∀ K,step (C n) K=out):aH N step s=out:=by subst h0; exact Do C n hn hs hx
def eo (b:List Int):Nat->Nat
 | 0=>0
 | n+1=>if b.getD n 0=0 then eo b n else n+1
theorem C4 (b:List Int) (n:Nat):eo b (n+1)=if b.getD n 0=0 then eo b n else n+1:=rfl
theorem oa (b:List Int):∀ n,eo b n<=n
 | 0=>Nat.le_refl _
 | n+1=>by unfold eo; split; exact Nat.le_succ_of_le (oa b n); exact Nat.le_refl _
theorem jn {b:List Int} {i:Nat} (h:b.length<=i):b.getD i 0=0:=by rw[List.getD_eq_getElem?_getD,List.getElem?_eq_none h]; rfl
theorem bQ {m:List Int} (i:Nat):aO (m.take (i+1))=aO (m.take i)+4294967296 ^ i*(m.getD i 0).toNat:=by
 by_cases h:i<m.length
 ·exact xJ h
 ·rw[jn (by omega),List.take_of_length_le (by omega),List.take_of_length_le (by omega)]; simp
theorem vf (b:List Int):∀ n,aO (b.take (eo b n))=aO (b.take n)
 | 0=>rfl
 | n+1=>by
  unfold eo;split
  ·rename_i h;rw[vf b n,bQ,h]; simp
  ·rfl
theorem getLast?_take {b:List Int} {n:Nat} (h:n<b.length):(b.take (n+1)).getLast? = some (b.getD n 0):=by rw[List.take_succ_eq_append_getElem h,List.getLast?_append,List.getD_eq_getElem?_getD,List.getElem?_eq_getElem h];simp
theorem ve (b:List Int):∀ n,n<=b.length -> ∀ x,(b.take (eo b n)).getLast? = some x->x ≠ 0
 | 0,_,x,h=>by simp[eo]at h
 | n+1,hn,x,h=>by
  unfold eo at h;split at h
  ·exact ve b n (by omega) x h
  ·rename_i h0;rw[getLast?_take (by omega)]at h;cases h; exact h0
theorem nR {b:List Int} (hb:InW b):b.take (eo b b.length)=ao (aO b):=by have h1:=vf b b.length;rw[List.take_length]at h1;rw[<- h1,uh (hb.take _) (ve b b.length (Nat.le_refl _))]
theorem oe {N:Nat} (b:List Int) (hN:b.length<N) (hs:b.length<9223372036854775807) (k:Nat->Nat->Bool):rN N b k=k 0 (eo b b.length):=by
 unfold rN YO;have key:∀ n,n<=b.length -> ∀ M,n<M->aH M (p9 N 0 b λm=>k 0 m) n=k 0 (eo b n):=by
  intro n;induction n with
  | zero=>
   intro _ M hM;cases M with
   | zero=>omega
   | succ M=>
    show p9 N 0 b _ 0 _=_;simp[p9,eo]
  | succ n ih=>
   intro hn M hM;cases M with
   | zero=>omega
   | succ M=>
    show p9 N 0 b _ (n+1) (aH M _)=_;have e:Int.toNat (((n+1:Nat):Int) - 1)=n:=by omega
    simp only[p9,e,Nat.zero_add,Nat.sub_zero];rw[decide_eq_true (by omega:((n+1:Nat):Int)>0),al (aq (by omega) (by omega)),al (aQ (by omega) (by omega)),al (decide_eq_true (by omega)),al (aq (by omega) (by omega)),al (decide_eq_true (by omega)),ih (by omega) M (by omega)];rw[C4];by_cases h0:b.getD n 0=0
    ·have:(b.getD n 0==0)=true:=by simpa using h0
     rw[this,if_pos h0]; rfl
    ·have:(b.getD n 0==0)=false:=by simpa using h0
     rw[this,if_neg h0]; rfl
 exact key b.length (Nat.le_refl _) N hN
theorem KJ {N:Nat} (m:List Int) (hm:InW m) (hN:m.length<N) (hs:m.length<9223372036854775807) (k:List Int->Bool):D0 N m k=k (ao (aO m)):=by
 unfold D0 J_;have key:∀ n,n<9223372036854775807 -> ∀(l:List Int),l.length=n->InW l -> ∀ M,n<M->aH M (dS N λm_2=>k m_2) l=k (ao (aO l)):=by
  intro n;induction n with
  | zero=>
   intro _ l hl _ M hM;cases M with
   | zero=>omega
   | succ M=>
    have:l=[]:=List.length_eq_zero_iff.1 hl;subst this;show dS N _ [] _=_;simp[dS,aO,aX]
  | succ n ih=>
   intro hn l hl hw M hM;cases M with
   | zero=>omega
   | succ M=>
    show dS N _ l (aH M _)=_;have e:Int.toNat ((l.length:Int) - 1)=n:=by omega
    simp only[dS,e,List.drop_zero];rw[decide_eq_true (by omega:(l.length:Int)>0),al (aq (by omega) (by omega)),al (aQ (by omega) (by omega)),al (aq (by omega) (by omega)),al (decide_eq_true (by omega)),ih (by omega) (l.take n) (by simp; omega) (hw.take n) M (by omega)];have e2:=bQ (m:=l) n;rw[List.take_of_length_le (by omega)]at e2;by_cases h0:l.getD n 0=0
    ·have:(l.getD n 0==0)=true:=by simpa using h0
     rw[this];rw[h0]at e2;simp at e2;rw[e2]; rfl
    ·have:(l.getD n 0==0)=false:=by simpa using h0
     rw[this,uh hw (λx hx=>by have:=getLast?_take (b:=l) (n:=n) (by omega);rw[List.take_of_length_le (by omega)]at this;rw[this]at hx; cases hx; exact h0)]
     rfl
 exact key m.length hs m rfl hm N hN
theorem fB {N:Nat} (b:List Int) (hb:InW b) (hN:b.length<N) (hs:b.length<9223372036854775807) (k:List Int->Bool) :
  (rN N b λm l=>(decide (m+l<=b.length))&&k (List.take l (List.drop m b)))=k (ao (aO b)):=by
 rw[oe b hN hs,List.drop_zero,nR hb];have:=oa b b.length;rw[decide_eq_true (by omega)]; rfl
def bv (N:Nat) (l:List Int):Prop:=l.length+2<N/\l.length<=17592186044416
theorem kn (T A i:Nat):(T+4294967296 ^ i*A) / 4294967296 ^ i=T / 4294967296 ^ i+A:=Nat.add_mul_div_left _ _ (Nat.pow_pos (by decide))
theorem F8 (m:List Int) (i:Nat):aO m=aO (m.take i)+4294967296 ^ (m.take i).length*aO (m.drop i):=by rw[<- ny,List.take_append_drop]
theorem dC (m:List Int) (i:Nat):∃ R,aO m=aO (m.take i)+4294967296 ^ i*R:=by
 by_cases h:i<=m.length
 ·refine⟨aO (m.drop i),?_⟩;have:=F8 m i
  rwa [List.length_take,Nat.min_eq_left h]at this
 ·exact⟨0,by rw[List.take_of_length_le (by omega)]; simp⟩
theorem df {m:List Int} (h:InW m) (i:Nat):aO (m.take i)<4294967296 ^ i:=by
 have h1:=fC (h.take i);have h2:(m.take i).length<=i:=by simp; omega
 exact Nat.lt_of_lt_of_le h1 (Nat.pow_le_pow_right (by decide) h2)
theorem qX {S T R i:Nat} (h:S=T+4294967296 ^ (i+1)*R):S / 4294967296 ^ i%4294967296=T / 4294967296 ^ i%4294967296:=by rw[h,Nat.pow_succ,Nat.mul_assoc,kn,Nat.add_mul_mod_self_left]
theorem AX {N:Nat} (a b:List Int) (ha:InW a) (hb:InW b) (hl:b.length<=a.length) (hN:bv N a) (k:List Int->Bool) :
  aH N (eh N (rN N) a b λcarry out=>(inR (a.length:Nat) out.length)&&((decide ((Int.toNat (a.length:Nat))<out.length)) &&
   (rN N (List.set out (Int.toNat (a.length:Nat)) (IntKind.wrap .u32 carry)) λmr anf=>(decide ((mr+anf)<=(List.length (List.set out (Int.toNat (a.length:Nat)) (IntKind.wrap .u32 carry)))))&&k (List.take anf (List.drop mr (List.set out (Int.toNat (a.length:Nat)) (IntKind.wrap .u32 carry)))))))
   (0,0,List.replicate (a.length+1) 0)=k (ao (aO a+aO b)):=by
 obtain⟨hN1,hN2⟩:=hN
 let S:=aO a+aO b
 let T:=λi=>aO (a.take i)+aO (b.take i)
 refine gn (λi=>(((T i / 4294967296 ^ i:Nat):Int),(i:Int),dl S i++List.replicate (a.length+1 - i) 0)) a.length (by simp[T,aO,dl]) (by omega) (λi hi K=>?_) (λK=>?_)
 ·have hx:=ha.at (i:=i);have hy:=hb.at (i:=i);have hT:T (i+1)=T i+4294967296 ^ i*((a.getD i 0).toNat+(b.getD i 0).toNat):=by simp only[T,bQ,Nat.mul_add]; omega
  have hq:T (i+1) / 4294967296 ^ i=T i / 4294967296 ^ i+((a.getD i 0).toNat+(b.getD i 0).toNat):=by rw[hT,kn]
  have hc:T i / 4294967296 ^ i<=1:=by
   have h1:=df ha i;have h2:=df hb i;have h3:T i<4294967296 ^ i*2:=by simp only[T]; omega
   have:=(Nat.div_lt_iff_lt_mul (Nat.pow_pos (n:=i) (by decide:0<4294967296))).2 (by rw[Nat.mul_comm]; exact h3:T i<2*4294967296 ^ i);omega
  have hdiv:T (i+1) / 4294967296 ^ (i+1)=T (i+1) / 4294967296 ^ i / 4294967296:=by rw[Nat.pow_succ,Nat.div_div_eq_div_mul]
  have hdig:S / 4294967296 ^ i%4294967296=T (i+1) / 4294967296 ^ i%4294967296:=by obtain⟨R1,h1⟩:=dC a (i+1);obtain⟨R2,h2⟩:=dC b (i+1);refine qX (R:=R1+R2) ?_;simp only[S,T];rw[Nat.mul_add]; omega
  have hset:=BB S i (a.length+1) (by omega);have hlen:(dl S i++List.replicate (a.length+1 - i) 0).length=a.length+1:=by simp[aL]; omega
  generalize hq':T i / 4294967296 ^ i=q at *;generalize hx':a.getD i 0=x at *;generalize hy':b.getD i 0=y at *;simp only[eh,Int.toNat_natCast];rw[decide_eq_true (by omega:(i:Int)<a.length),cond_true,hx',hy',al (aQ (by omega) (by omega)),hlen];have hstep:∀ s:Int,s=((q+(x.toNat+y.toNat):Nat):Int)->K ((Int.fdiv s (2 ^ 32)),((i:Int)+1),(List.set (dl S i++List.replicate (a.length+1 - i) 0) i (IntKind.wrap .u32 s)))=K (((T (i+1) / 4294967296 ^ (i+1):Nat):Int),((i+1:Nat):Int),dl S (i+1)++List.replicate (a.length+1 - (i+1)) 0):=by
   intro s hs;have e1:Int.fdiv s (2 ^ 32)=((T (i+1) / 4294967296 ^ (i+1):Nat):Int):=by rw[w8,hdiv,hq,hs]; omega
   have e2:IntKind.wrap .u32 s=((S / 4294967296 ^ i%4294967296:Nat):Int):=by rw[kg,hdig,hq,hs]; omega
   rw[e1,e2,hset]; rfl
  by_cases hib:i<b.length
  ·rw[decide_eq_true (by omega:(i:Int)<b.length),cond_true,al (aQ (by omega) (by omega)),al (aQ (by omega) (by omega)),al (decide_eq_true (by omega)),al (aq (by omega) (by omega))];exact hstep _ (by simp only[bI]; omega)
  ·rw[decide_eq_false (by omega:¬(i:Int)<b.length),cond_false,al (aQ (by omega) (by omega)),al (decide_eq_true (by omega)),al (aq (by omega) (by omega))];have hy0:y=0:=by rw[<- hy']; exact jn (by omega)
   subst hy0;exact hstep _ (by simp only[bI]; omega)
 ·simp only[eh];rw[decide_eq_false (by omega:¬(a.length:Int)<a.length),cond_false];have hT:T a.length=S:=by simp only[T,S]; rw[List.take_length,List.take_of_length_le hl]
  have hS:S<4294967296 ^ (a.length+1):=by have h1:=fC ha;have h2:=fC hb;have h3:4294967296 ^ b.length<=4294967296 ^ a.length:=Nat.pow_le_pow_right (by decide) hl;rw[Nat.pow_succ];simp only[S]; omega
  have hlen:(dl S a.length++List.replicate (a.length+1 - a.length) 0).length=a.length+1:=by simp[aL]
  have e2:IntKind.wrap .u32 ((T a.length / 4294967296 ^ a.length:Nat):Int)=((S / 4294967296 ^ a.length%4294967296:Nat):Int):=by rw[kg,hT]; omega
  have hset:=BB S a.length (a.length+1) (by omega);rw[e2,Int.toNat_natCast,hset,hlen,al (aQ (by omega) (by omega)),al (decide_eq_true (by omega)),Nat.sub_self,List.replicate_zero,List.append_nil,
   fB _ (ui S _) (by rw[aL]; omega) (by rw[aL]; omega),qY hS]
theorem Ds {N:Nat} (a b:List Int) (ha:InW a) (hb:InW b) (hNa:bv N a) (hNb:bv N b) (k:List Int->Bool):xW N a b k=k (ao (aO a+aO b)):=by
 unfold xW JI;have h1:=hNa.2;have h2:=hNb.2;by_cases h:a.length<b.length
 ·rw[decide_eq_true (by omega:(a.length:Int)<b.length),cond_true,al (aq (by omega) (by omega)),al (oq (by omega) (by omega) (by omega) (by omega))];have e:Int.toNat ((b.length:Int)+1)=b.length+1:=by omega
  rw[e,AX b a hb ha (by omega) hNb k,Nat.add_comm]
 ·rw[decide_eq_false (by omega:¬(a.length:Int)<b.length),cond_false,al (aq (by omega) (by omega)),al (oq (by omega) (by omega) (by omega) (by omega))];have e:Int.toNat ((a.length:Int)+1)=a.length+1:=by omega
  rw[e,AX a b ha hb (by omega) hNa k]
theorem ir (i:Nat):0<4294967296 ^ i:=Nat.pow_pos (by decide)
theorem Fy {D e P:Nat} {z:Int} (h:(D:Int)=(e:Int)+(P:Int)*z) (he:e<P):((D / P:Nat):Int)=z:=by
 have hP:(P:Int) ≠ 0:=by omega
 rw[Int.natCast_ediv,h,Int.add_mul_ediv_left _ _ hP,<- Int.natCast_ediv,Nat.div_eq_of_lt he];simp
theorem CT (P A B x y:Nat) (hA:A<P) (hB:B<P):(if A+P*x<B+P*y then 1 else 0)=if x<y+(if A<B then 1 else 0)then 1 else(0:Nat):=by
 by_cases hxy:x<y
 ·have:P*(x+1)<=P*y:=Nat.mul_le_mul_left P hxy;rw[Nat.mul_add]at this;rw[if_pos (by omega),if_pos (by omega)]
 ·by_cases hyx:y<x
  ·have:P*(y+1)<=P*x:=Nat.mul_le_mul_left P hyx;rw[Nat.mul_add]at this;rw[if_neg (by omega),if_neg (by split <;> omega)]
  ·have:x=y:=by omega
   subst this;by_cases hAB:A<B
   ·rw[if_pos (by omega),if_pos hAB,if_pos (by omega)]
   ·rw[if_neg (by omega),if_neg hAB,if_neg (by omega)]
theorem RF {P A B x y o R1 R2 D a b:Nat} (hA:A<P) (hB:B<P) (ho:o=if A<B then 1 else 0) (h1:a=A+P*x+P*4294967296*R1) (h2:b=B+P*y+P*4294967296*R2) (hD:(D:Int)=(a:Int) - (b:Int)) :
  ((D / P:Nat):Int)=(x:Int) - (y:Int) - (o:Int)+4294967296*((R1:Int) - (R2:Int)):=by
 have he:∃ e:Nat,e<P/\(e:Int)=(A:Int) - (B:Int)+(P:Int)*(o:Int):=by
  rw[ho];split
  ·exact⟨A+P - B,by omega,by omega⟩
  ·exact⟨A - B,by omega,by omega⟩
 obtain⟨e,he1,he2⟩:=he;refine Fy (e:=e) ?_ he1;have e1:(a:Int)=A+(P:Int)*x+4294967296*((P:Int)*R1):=by rw[h1,Nat.mul_assoc,Nat.mul_left_comm]; simp
 have e2:(b:Int)=B+(P:Int)*y+4294967296*((P:Int)*R2):=by rw[h2,Nat.mul_assoc,Nat.mul_left_comm]; simp
 have e3:(P:Int)*((x:Int) - (y:Int) - (o:Int)+4294967296*((R1:Int) - (R2:Int)))=(P:Int)*x - (P:Int)*y - (P:Int)*o+(4294967296*((P:Int)*R1) - 4294967296*((P:Int)*R2)):=by rw[Int.mul_add,Int.mul_sub,Int.mul_sub,Int.mul_left_comm,Int.mul_sub,Int.mul_sub]
 rw[hD,e1,e2,e3,he2];omega
theorem oi {N:Nat} (a b:List Int) (ha:InW a) (hb:InW b) (hle:aO b<=aO a) (hN:bv N a) (k:List Int->Bool):D5 N a b k=k (ao (aO a - aO b)):=by
 obtain⟨hN1,hN2⟩:=hN;unfold D5 Y3;rw[al (oq (by omega) (by omega) (by omega) (by omega)),Int.toNat_natCast]
 let D:=aO a - aO b
 let bo:=λi=>if aO (a.take i)<aO (b.take i)then(1:Nat)else 0
 refine gn (λi=>(((bo i:Nat):Int),(i:Int),dl D i++List.replicate (a.length - i) 0)) a.length (by simp[bo,aO,dl]) (by omega) (λi hi K=>?_) (λK=>?_)
 ·have hx:=ha.at (i:=i);have hy:=hb.at (i:=i);have hA:=bQ (m:=a) i;have hB:=bQ (m:=b) i;have hAl:=df ha i;have hBl:=df hb i;have hset:=BB D i a.length (by omega);have hl:(dl D i++List.replicate (a.length - i) 0).length=a.length:=by simp[aL]; omega
  obtain⟨R1,h1⟩:=dC a (i+1);obtain⟨R2,h2⟩:=dC b (i+1);have hD:(D:Int)=(aO a:Int) - (aO b:Int):=by simp only[D]; omega
  have hP:=ir i;have hPs:4294967296 ^ (i+1)=4294967296 ^ i*4294967296:=Nat.pow_succ ..;have hbo:bo i<=1:=by simp only[bo]; split <;> omega
  have hbs:bo (i+1)=if (a.getD i 0).toNat<(b.getD i 0).toNat+bo i then 1 else 0:=by simp only[bo,hA,hB];exact CT _ _ _ _ _ hAl hBl
  have hq:((D / 4294967296 ^ i:Nat):Int)=((a.getD i 0).toNat:Int) - ((b.getD i 0).toNat:Int) - (bo i:Int)+4294967296*((R1:Int) - (R2:Int)):=by rw[hA,hPs]at h1;rw[hB,hPs]at h2;exact RF hAl hBl rfl h1 h2 hD
  have hdig:((D / 4294967296 ^ i%4294967296:Nat):Int)=(((a.getD i 0).toNat:Int) - ((b.getD i 0).toNat:Int) - (bo i:Int))%4294967296:=by rw[Int.natCast_emod,hq];exact Int.add_mul_emod_self_left _ _ _
  generalize hx':a.getD i 0=x at *;generalize hy':b.getD i 0=y at *;generalize bo i=o at *;generalize bo (i+1)=o' at *;simp only[gP,Int.toNat_natCast];have hy0:¬ i<b.length->y=0:=λh=>by rw[<- hy']; exact jn (by omega)
  have fin:∀(v w:Int),v=(o':Int)->w%4294967296=((D / 4294967296 ^ i%4294967296:Nat):Int)->K (v,(i:Int)+1,List.set (dl D i++List.replicate (a.length - i) 0) i (IntKind.wrap .u32 w))=K ((o':Int),((i+1:Nat):Int),dl D (i+1)++List.replicate (a.length - (i+1)) 0):=by intro v w hv hw;rw[hv,kg,hw,hset]; rfl
  simp only[hx',hy',hl];rw[decide_eq_true (by omega:(i:Int)<a.length),cond_true];by_cases hib:i<b.length
  ·rw[decide_eq_true (by omega:(i:Int)<b.length),cond_true,al (aQ (by omega) (by omega)),al (aQ (by omega) (by omega))];by_cases hlt:x.toNat<y.toNat+o
   ·rw[decide_eq_true (by simp only[bI]; omega),cond_true,al (aQ (by omega) (by omega)),al (decide_eq_true (by omega)),al (aq (by omega) (by omega))];rw[if_pos hlt]at hbs;exact fin _ _ (by omega) (by rw[hdig]; simp only[bI]; omega)
   ·rw[decide_eq_false (by simp only[bI]; omega),cond_false,al (aQ (by omega) (by omega)),al (decide_eq_true (by omega)),al (aq (by omega) (by omega))];rw[if_neg hlt]at hbs;exact fin _ _ (by omega) (by rw[hdig]; simp only[bI]; omega)
  ·have hy1:=hy0 hib;rw[decide_eq_false (by omega:¬(i:Int)<b.length),cond_false,al (aQ (by omega) (by omega))];by_cases hlt:x.toNat<y.toNat+o
   ·rw[decide_eq_true (by simp only[bI]; omega),cond_true,al (aQ (by omega) (by omega)),al (decide_eq_true (by omega)),al (aq (by omega) (by omega))];rw[if_pos hlt]at hbs;exact fin _ _ (by omega) (by rw[hdig]; simp only[bI]; omega)
   ·rw[decide_eq_false (by simp only[bI]; omega),cond_false,al (aQ (by omega) (by omega)),al (decide_eq_true (by omega)),al (aq (by omega) (by omega))];rw[if_neg hlt]at hbs;exact fin _ _ (by omega) (by rw[hdig]; simp only[bI]; omega)
 ·simp only[gP];rw[decide_eq_false (by omega:¬(a.length:Int)<a.length),cond_false,Nat.sub_self,List.replicate_zero,List.append_nil];have hS:D<4294967296 ^ a.length:=by have:=fC ha; simp only[D]; omega
  rw[fB _ (ui D _) (by rw[aL]; omega) (by rw[aL]; omega),qY hS]
theorem cD (a c s:Nat) (ha:a<2 ^ s) (hlt:2 ^ s*c+a<18446744073709551616):av .or .u64 (a:Int) ((2 ^ s*c:Nat):Int)=((2 ^ s*c+a:Nat):Int):=by
 unfold av jV;simp only[Option.getD_some];have e:((BitVec.ofInt (IntKind.bits .u64) (a:Int)) ||| (BitVec.ofInt (IntKind.bits .u64) ((2 ^ s*c:Nat):Int))).toNat=2 ^ s*c+a:=by
  show((BitVec.ofInt 64 (a:Int)) ||| (BitVec.ofInt 64 ((2 ^ s*c:Nat):Int))).toNat=_;have h64:(2:Nat) ^ 64=18446744073709551616:=by decide
  rw[BitVec.toNat_or,BitVec.ofInt_natCast,BitVec.ofInt_natCast,BitVec.toNat_ofNat,BitVec.toNat_ofNat,Nat.mod_eq_of_lt (by omega),Nat.mod_eq_of_lt (by omega),Nat.or_comm,<- Nat.two_pow_add_eq_or_of_lt ha]
 rw[e,fe _ hlt]
theorem En (n:Nat) (h:n<4294967296):IntKind.wrap .u32 (n:Int)=n:=by rw[kg]; omega
theorem vG (a c s:Nat) (ha:a<2 ^ s) (hlt:2 ^ s*c+a<4294967296):av .or .u32 (a:Int) ((2 ^ s*c:Nat):Int)=((2 ^ s*c+a:Nat):Int):=by
 unfold av jV;simp only[Option.getD_some];have e:((BitVec.ofInt (IntKind.bits .u32) (a:Int)) ||| (BitVec.ofInt (IntKind.bits .u32) ((2 ^ s*c:Nat):Int))).toNat=2 ^ s*c+a:=by
  show((BitVec.ofInt 32 (a:Int)) ||| (BitVec.ofInt 32 ((2 ^ s*c:Nat):Int))).toNat=_;have h32:(2:Nat) ^ 32=4294967296:=by decide
  rw[BitVec.toNat_or,BitVec.ofInt_natCast,BitVec.ofInt_natCast,BitVec.toNat_ofNat,BitVec.toNat_ofNat,Nat.mod_eq_of_lt (by omega),Nat.mod_eq_of_lt (by omega),Nat.or_comm,<- Nat.two_pow_add_eq_or_of_lt ha]
 rw[e,En _ hlt]
def kA (x y:Nat):Int:=if x<y then -1 else if x=y then 0 else 1
theorem afi {P A B x y:Nat} (hA:A<P) (h:x<y):kA (A+P*x) (B+P*y) = -1:=by have:P*(x+1)<=P*y:=Nat.mul_le_mul_left P h;rw[Nat.mul_add]at this;unfold kA;rw[if_pos (by omega)]
theorem afh {P A B x y:Nat} (hB:B<P) (h:y<x):kA (A+P*x) (B+P*y)=1:=by have:P*(y+1)<=P*x:=Nat.mul_le_mul_left P h;rw[Nat.mul_add]at this;unfold kA;rw[if_neg (by omega),if_neg (by omega)]
theorem Q9 {P A B x:Nat}:kA (A+P*x) (B+P*x)=kA A B:=by
 unfold kA;by_cases h3:A<B
 ·rw[if_pos h3,if_pos (by omega)]
 ·by_cases h4:A=B
  ·subst h4; simp
  ·rw[if_neg h3,if_neg h4,if_neg (by omega),if_neg (by omega)]
theorem Bx {N:Nat} (a b:List Int) (ha:InW a) (hb:InW b) (hl:a.length=b.length) (hs:a.length<9223372036854775807) (k:Int->Bool) :
  ∀ n,n<=a.length -> ∀ M,n<M->aH M (p7 N a b (λt4=>k t4) (k 0)) ((n:Int) - 1)=k (kA (aO (a.take n)) (aO (b.take n))):=by
 intro n;induction n with
 | zero=>
  intro _ M hM;cases M with
  | zero=>omega
  | succ M=>
   show p7 N a b _ _ ((0:Nat) - 1:Int) _=_;simp[p7,kA,aO]
 | succ n ih=>
  intro hn M hM;cases M with
  | zero=>omega
  | succ M=>
   show p7 N a b _ _ (((n+1:Nat):Int) - 1) (aH M _)=_;have e:(((n+1:Nat):Int) - 1)=(n:Int):=by omega
   have hx:=ha.at (i:=n);have hy:=hb.at (i:=n);have hA:=bQ (m:=a) n;have hB:=bQ (m:=b) n;have hAl:=df ha n;have hBl:=df hb n;rw[e];simp only[p7,Int.toNat_natCast];rw[hA,hB,decide_eq_true (by omega:(n:Int)>=0),cond_true,al (aQ (by omega) (by omega)),al (aQ (by omega) (by omega)),al (aQ (by omega) (by omega)),al (aQ (by omega) (by omega)),al (aq (by omega) (by omega)),ih (by omega) M (by omega)];by_cases h1:a.getD n 0<b.getD n 0
   ·rw[decide_eq_true h1,cond_true,afi hAl (by omega)]
   ·rw[decide_eq_false h1,cond_false];by_cases h2:a.getD n 0>b.getD n 0
    ·rw[decide_eq_true h2,cond_true,afh hBl (by omega)]
    ·rw[decide_eq_false h2,cond_false];have:a.getD n 0=b.getD n 0:=by omega
     rw[this,Q9]
theorem eV {x y:Nat} (h:x<=y):(ao x).length<=(ao y).length:=by
 induction y using Nat.strongRecOn generalizing x with
 | ind y ih=>
  by_cases hx:x=0
  ·subst hx; rw[aX]; simp
  ·rw[dk hx,dk (by omega:y ≠ 0)];simp only[List.length_cons];have:=ih (y / 4294967296) (by omega) (x:=x / 4294967296) (Nat.div_le_div_right h);omega
theorem nu {N:Nat} (x y:Nat) (hx:bv N (ao x)) (hy:bv N (ao y)) (k:Int->Bool):O7 N (ao x) (ao y) k=k (kA x y):=by
 unfold O7 Zd;obtain⟨x1,x2⟩:=hx;obtain⟨y1,y2⟩:=hy;by_cases h:(ao x).length=(ao y).length
 ·have e:(((ao x).length:Int) != (ao y).length)=false:=by rw[h]; simp
  rw[e,cond_false,al (aq (by omega) (by omega)),Bx (ao x) (ao y) (aK x) (aK y) h (by omega) k _ (Nat.le_refl _) N (by omega),List.take_length,h,List.take_length,aC,aC]
 ·have e:(((ao x).length:Int) != (ao y).length)=true:=by simp; omega
  rw[e,cond_true];by_cases h1:(ao x).length<(ao y).length
  ·rw[decide_eq_true (by omega),cond_true];have:x<y:=by
    rcases Nat.lt_or_ge x y with h2 | h2
    ·exact h2
    ·have:=eV h2; omega
   unfold kA; rw[if_pos this]
  ·rw[decide_eq_false (by omega),cond_false];have:¬ x<=y:=λh2=>by have:=eV h2; omega
   unfold kA; rw[if_neg (by omega),if_neg (by omega)]
def bl (n:Nat):Nat:=if n=0 then 0 else n.log2+1
theorem qR {n:Nat} (j:Nat) (h:2 ^ j<=n):bl n=j+bl (n / 2 ^ j):=by
 have hp:0<2 ^ j:=Nat.two_pow_pos j;have h0:n ≠ 0:=by omega
 have h1:n / 2 ^ j ≠ 0:=by have:=Nat.div_pos h hp;omega
 unfold bl;rw[if_neg h0,if_neg h1];have hj:j<=n.log2:=(Nat.le_log2 h0).2 h;have:(n / 2 ^ j).log2=n.log2 - j:=by
  rw[Nat.log2_eq_iff h1];have h2:=Nat.log2_self_le h0;have h3:n<2 ^ (n.log2+1):=Nat.lt_log2_self;constructor
  ·rw[Nat.le_div_iff_mul_le hp,<- Nat.pow_add];rw[show n.log2 - j+j=n.log2 by omega]; exact h2
  ·rw[Nat.div_lt_iff_lt_mul hp,<- Nat.pow_add];rw[show n.log2 - j+1+j=n.log2+1 by omega]; exact h3
 omega
theorem ahx:∀ i:Fin 256,aD.getD i.val 0=(bl i.val:Int):=by decide +kernel
theorem ahw {i:Nat} (h:i<256):aD.getD i 0=(bl i:Int):=ahx ⟨i,h⟩
theorem Q5 {n:Nat} (h:n<256):bl n<=8:=by
 unfold bl;split
 ·omega
 ·rename_i h0;have:=(Nat.log2_lt h0).2 (by simpa using h:n<2 ^ 8);omega
theorem alB (z:Int):IntKind.wrap .u8 z=z%256:=by rfl
theorem ajf (z:Int):Int.fdiv z (2 ^ 8)=z / 256:=by rw[Int.fdiv_eq_ediv_of_nonneg _ (by decide)]; rfl
theorem afz (z:Int):Int.fdiv z (2 ^ 16)=z / 65536:=by rw[Int.fdiv_eq_ediv_of_nonneg _ (by decide)]; rfl
theorem Ot (N:Nat) (x:Nat) (h:x<4294967296) (k:Int->Bool):Lg N (x:Int) k=k (bl x:Int):=by
 unfold Lg JV;simp only[ajf,afz,alB];have key:∀(z:Int) (m:Nat),z=(m:Int)->m<256 -> ∀ c:Nat,c<=32->((inR z 256)&&((aw .i64 (List.getD aD (Int.toNat z) 0))&&((aw .i64 ((c:Int)+(List.getD aD (Int.toNat z) 0)))&&k ((c:Int)+List.getD aD (Int.toNat z) 0))))=k ((c+bl m:Nat):Int):=by intro z m hz hm c hc;subst hz;have:=Q5 hm;rw[Int.toNat_natCast,ahw hm,al (aQ (by omega) (by omega)),al (aq (by omega) (by omega)),al (aq (by omega) (by omega))];rfl
 by_cases h16:65536<=x
 ·rw[decide_eq_true (by omega:(x:Int)>=65536),cond_true];have e16:=qR (n:=x) 16 (by simpa using h16);have p16:(2:Nat) ^ 16=65536:=by decide
  have p8:(2:Nat) ^ 8=256:=by decide
  rw[p16]at e16;by_cases h8:256<=x / 65536
  ·rw[decide_eq_true (by omega:(x:Int) / 65536>=256),cond_true];have e8:=qR (n:=x / 65536) 8 (by simpa using h8);rw[p8]at e8;have:=key ((x:Int) / 65536 / 256%256) (x / 65536 / 256) (by omega) (by omega) 24 (by omega);rw[show((24:Nat):Int)=24 from rfl]at this;rw[this]; congr 2; omega
  ·rw[decide_eq_false (by omega:¬(x:Int) / 65536>=256),cond_false];have:=key ((x:Int) / 65536%256) (x / 65536) (by omega) (by omega) 16 (by omega);rw[show((16:Nat):Int)=16 from rfl]at this;rw[this]; congr 2; omega
 ·rw[decide_eq_false (by omega:¬(x:Int)>=65536),cond_false];by_cases h8:256<=x
  ·rw[decide_eq_true (by omega:(x:Int)>=256),cond_true];have e8:=qR (n:=x) 8 (by simpa using h8);rw[show(2:Nat) ^ 8=256 by decide]at e8;have:=key ((x:Int) / 256%256) (x / 256) (by omega) (by omega) 8 (by omega);rw[show((8:Nat):Int)=8 from rfl]at this;rw[this]; congr 2; omega
  ·rw[decide_eq_false (by omega:¬(x:Int)>=256),cond_false];have:=key ((x:Int)%256) x (by omega) (by omega) 0 (by omega);rw[show((0:Nat):Int)=0 from rfl]at this;rw[this]; congr 2; omega
theorem jX:∀ n,n ≠ 0->bl n=32*((ao n).length - 1)+bl ((ao n).getD ((ao n).length - 1) 0).toNat/\0<(ao n).length:=by
  intro n;induction n using Nat.strongRecOn with
  | ind n ih=>
    intro h;rw[dk h];by_cases h1:n / 4294967296=0
    · rw[h1,aX]
      have:n%4294967296=n:=Nat.mod_eq_of_lt (by omega);simp[this]
    · obtain⟨i1,i2⟩:=ih (n / 4294967296) (by omega) h1
      have e:=qR (n:=n) 32 (by have:(2:Nat) ^ 32=4294967296:=(by decide); omega);rw[show(2:Nat) ^ 32=4294967296 by decide]at e;refine⟨?_,by simp⟩;have e2:(((n%4294967296:Nat):Int)::ao (n / 4294967296)).getD ((((n%4294967296:Nat):Int)::ao (n / 4294967296)).length - 1) 0=(ao (n / 4294967296)).getD ((ao (n / 4294967296)).length - 1) 0:=by
        simp only[List.length_cons,Nat.add_sub_cancel];generalize ao (n / 4294967296)=l at i2 ⊢;cases l with
        | nil=>simp at i2
        | cons y l=>simp
      rw[e2,e,i1];simp only[List.length_cons];omega
theorem dB {N:Nat} (g:Bool) (n:Nat) (hs:bv N (ao n)) (k:Int->Bool):sZ7 N g (ao n) k=k (bl n:Int):=by
  unfold sZ7 GZ7;obtain⟨s1,s2⟩:=hs;by_cases h:n=0
  · subst h; rw[aX]; rfl
  · obtain⟨e1,e2⟩:=jX n h
    have e0:(((ao n).length:Int)==0)=false:=by simp; intro h'; rw[h']at e2; simp at e2
    have e3:Int.toNat (((ao n).length:Int) - 1)=(ao n).length - 1:=by omega
    have hw:=(aK n).at (i:=(ao n).length - 1);have hb:bl ((ao n).getD ((ao n).length - 1) 0).toNat<=32:=by
      unfold bl; split
      · omega
      · rename_i h0
        have:=(Nat.log2_lt h0).2 (by have:(2:Nat) ^ 32=4294967296:=(by decide); omega:((ao n).getD ((ao n).length - 1) 0).toNat<2 ^ 32);omega
    have e4:(ao n).getD ((ao n).length - 1) 0=((((ao n).getD ((ao n).length - 1) 0).toNat:Nat):Int):=by omega
    rw[e0,cond_false,al (aq (by omega) (by omega)),al (aq (by omega) (by omega)),al (aq (by omega) (by omega)),al (aQ (by omega) (by omega)),e3,e4,Ot N _ (by omega),al (aq (by omega) (by omega))];congr 1; omega
theorem wS:∀(w X:Nat),dl (4294967296 ^ w*X) w=List.replicate w 0:=by
 intro w;have key:∀ n,n<=w -> ∀ X,dl (4294967296 ^ w*X) n=List.replicate n 0:=by
  intro n;induction n with
  | zero=>intro _ X; rfl
  | succ n ih=>
   intro hn X;rw[dl,ih (by omega),List.replicate_succ'];have e:4294967296 ^ w*X=4294967296 ^ n*(4294967296*(4294967296 ^ (w - n - 1)*X)):=by rw[<- Nat.mul_assoc,<- Nat.mul_assoc,<- Nat.pow_succ,<- Nat.pow_add];congr 2; omega
   rw[e,Nat.mul_div_cancel_left _ (ir n),Nat.mul_mod_right];rfl
 exact key w (Nat.le_refl _)
theorem KT (n:Nat):2 ^ n=4294967296 ^ (n / 32)*2 ^ (n%32):=by
 have:(4294967296:Nat)=2 ^ 32:=by decide
 rw[this,<- Nat.pow_mul,<- Nat.pow_add];congr 1; omega
theorem kL {α:Type} (xs:List α) (y:α) (ys:List α) (z:α) (n:Nat) (h:n=xs.length):(xs++y::ys).set n z=xs++z::ys:=by subst h; rw[List.set_append_right _ _ (Nat.le_refl _),Nat.sub_self]; rfl
theorem nk {xs:List Int} {y:Int} {ys:List Int} {n:Nat} (h:n=xs.length):(xs++y::ys).getD n 0=y:=by subst h; rw[List.getD_eq_getElem?_getD,List.getElem?_append_right (Nat.le_refl _),Nat.sub_self]; rfl
theorem Dr {N:Nat} (m:List Int) (hm:InW m) (n:Nat) (hn:n<4294967296) (hN:m.length+n / 32+4<N) (hs:m.length<=1099511627776) (k:List Int->Bool):DX N m n k=k (ao (aO m*2 ^ n)):=by
 unfold DX J1;by_cases h0:m.length=0
 ·have:m=[]:=List.length_eq_zero_iff.1 h0;subst this;simp[aO,aX]
 ·have e0:((m.length:Int)==0)=false:=by simp; intro h; subst h; simp at h0
  have ew:IntKind.wrap .u64 (Int.tdiv (n:Int) 32)=((n / 32:Nat):Int):=by rw[bI,Int.tdiv_eq_ediv_of_nonneg (by omega)]; omega
  have es:Int.tmod (n:Int) 32=((n%32:Nat):Int):=by rw[Int.tmod_eq_emod_of_nonneg (by omega)]; rfl
  rw[e0,cond_false,ew,es];generalize hw:n / 32=w at *;generalize hsh:n%32=s at *;have hs32:s<32:=by omega
  have hp2:2 ^ n=4294967296 ^ w*2 ^ s:=by rw[KT,hw,hsh]
  have hs0:0<2 ^ s:=Nat.two_pow_pos s;have hs1:2 ^ s*2 ^ (32 - s)=4294967296:=by rw[<- Nat.pow_add,show s+(32 - s)=32 by omega]
  have hs2:2 ^ s<=2147483648:=by have:2 ^ s<=2 ^ 31:=Nat.pow_le_pow_right (by decide) (by omega);simpa using this
  have elen:Int.toNat (((w:Nat):Int)+(m.length:Int)+1)=w+m.length+1:=by omega
  rw[al (aq (by omega) (by omega)),al (aq (by omega) (by omega)),al (aq (by omega) (by omega)),al (oq (by omega) (by omega) (by omega) (by omega)),elen]
  let V:=aO m*2 ^ n
  let X:=aO m*2 ^ s
  have hVX:V=4294967296 ^ w*X:=by simp only[V,X]; rw[hp2,Nat.mul_left_comm]
  let T:=λi=>aO (m.take i)*2 ^ s
  let c:=λi=>T i / 4294967296 ^ i
  refine gn (λi=>((i:Int),dl V (w+i)++((c i:Nat):Int)::List.replicate (m.length - i) 0)) m.length ?_ (by omega) (λi hi K=>?_) (λK=>?_)
  ·congr 1;show List.replicate (w+m.length+1) (0:Int)=dl V w++((c 0:Nat):Int)::List.replicate m.length 0;rw[hVX,wS];have hc0:c 0=0:=by simp[c,T,aO]
   rw[hc0];have:w+m.length+1=w+(m.length+1):=by omega
   rw[this,<- List.replicate_append_replicate,List.replicate_succ]; rfl
  ·have hx:=hm.at (i:=i);have hT:T (i+1)=T i+4294967296 ^ i*((m.getD i 0).toNat*2 ^ s):=by simp only[T,bQ,Nat.add_mul,Nat.mul_assoc]
   have hq:T (i+1) / 4294967296 ^ i=c i+(m.getD i 0).toNat*2 ^ s:=by rw[hT,kn]
   have hci:c i<2 ^ s:=by simp only[c,T];rw[Nat.div_lt_iff_lt_mul (ir i),Nat.mul_comm];exact Nat.mul_lt_mul_of_pos_left (df hm i) hs0
   have hc1:c (i+1)=(c i+(m.getD i 0).toNat*2 ^ s) / 4294967296:=by rw[<- hq]; simp only[c]; rw[Nat.pow_succ,Nat.div_div_eq_div_mul]
   have hdig:V / 4294967296 ^ (w+i)%4294967296=(c i+(m.getD i 0).toNat*2 ^ s)%4294967296:=by rw[<- hq,hVX,Nat.pow_add,<- Nat.div_div_eq_div_mul,Nat.mul_div_cancel_left _ (ir w)];obtain⟨R,hR⟩:=dC m (i+1);refine qX (R:=R*2 ^ s) ?_;simp only[X,T];rw[hR,Nat.add_mul,Nat.mul_assoc]
   have hrep:List.replicate (m.length - i) (0:Int)=0::List.replicate (m.length - (i+1)) 0:=by rw[show m.length - i=(m.length - (i+1))+1 by omega,List.replicate_succ]
   have hdl:=aL V (w+i);have ei:Int.toNat ((w:Int)+(i:Int))=w+i:=by omega
   have ei1:Int.toNat ((w:Int)+(i:Int)+1)=w+i+1:=by omega
   have emin:min s 64=s:=by omega
   simp only[iD,Int.toNat_natCast,ei,ei1,emin];rw[hrep,nk hdl.symm,kL _ _ _ _ _ hdl.symm];have et:IntKind.wrap .u64 (IntKind.wrap .u64 (m.getD i 0)*2 ^ s)=(((m.getD i 0).toNat*2 ^ s:Nat):Int):=by
    have hxs:(m.getD i 0).toNat*2 ^ s<4294967296*2147483648:=Nat.mul_lt_mul_of_lt_of_le (by omega) hs2 (by decide);have e1:IntKind.wrap .u64 (m.getD i 0)=(((m.getD i 0).toNat:Nat):Int):=by rw[bI]; omega
    have e2:(((m.getD i 0).toNat:Nat):Int)*2 ^ s=(((m.getD i 0).toNat*2 ^ s:Nat):Int):=by simp
    rw[e1,e2,bI]; omega
   rw[et];generalize hxx:(m.getD i 0).toNat=x at *;have hx32:x<4294967296:=by omega
   have hlow:x*2 ^ s%4294967296=2 ^ s*(x%2 ^ (32 - s)):=by
    have e:x*2 ^ s%(2 ^ s*2 ^ (32 - s))=2 ^ s*(x%2 ^ (32 - s)):=by rw[Nat.mul_comm x]; exact Nat.mul_mod_mul_left _ _ _
    rwa [hs1]at e
   have hsum:2 ^ s*(x%2 ^ (32 - s))+c i<4294967296:=by have h1:x%2 ^ (32 - s)+1<=2 ^ (32 - s):=Nat.mod_lt _ (Nat.two_pow_pos _);have h2:=Nat.mul_le_mul_left (2 ^ s) h1;rw[hs1,Nat.mul_add]at h2;omega
   have eor:av .or .u32 ((c i:Nat):Int) (IntKind.wrap .u32 ((x*2 ^ s:Nat):Int))=((V / 4294967296 ^ (w+i)%4294967296:Nat):Int):=by
    have e1:IntKind.wrap .u32 ((x*2 ^ s:Nat):Int)=((2 ^ s*(x%2 ^ (32 - s)):Nat):Int):=by rw[<- hlow,kg]; omega
    rw[e1,vG _ _ s hci hsum,hdig];omega
   have ehi:IntKind.wrap .u32 (Int.fdiv ((x*2 ^ s:Nat):Int) (2 ^ 32))=((c (i+1):Nat):Int):=by have hxs:x*2 ^ s<4294967296*2147483648:=Nat.mul_lt_mul_of_lt_of_le hx32 hs2 (by decide);rw[w8,kg,hc1];omega
   rw[eor,ehi];have hl1:∀(a b:Int) (ys:List Int),(dl V (w+i)++a::b::ys).length=w+i+2+ys.length:=by intro a b ys; simp[hdl]; omega
   have hset2:(dl V (w+i)++((V / 4294967296 ^ (w+i)%4294967296:Nat):Int)::0::List.replicate (m.length - (i+1)) 0).set (w+i+1) ((c (i+1):Nat):Int)=dl V (w+(i+1))++((c (i+1):Nat):Int)::List.replicate (m.length - (i+1)) 0:=by
    have:dl V (w+i)++((V / 4294967296 ^ (w+i)%4294967296:Nat):Int)::0::List.replicate (m.length - (i+1)) 0=dl V (w+(i+1))++0::List.replicate (m.length - (i+1)) 0:=by rw[<- Nat.add_assoc,dl]; simp
    rw[this];exact kL _ _ _ _ _ (by rw[aL]; omega)
   rw[hset2,hl1,hl1];simp only[List.length_replicate];rw[decide_eq_true (by omega:(i:Int)<m.length),cond_true,al (aQ (by omega) (by omega)),al (decide_eq_true (by omega)),al (aq (by omega) (by omega)),al (aQ (by omega) (by omega)),al (decide_eq_true (by omega)),al (aQ (by omega) (by omega)),al (decide_eq_true (by omega)),
    al (aq (by omega) (by omega)),al (aq (by omega) (by omega)),al (aQ (by omega) (by omega)),al (decide_eq_true (by omega)),al (aq (by omega) (by omega))]
   rfl
  ·simp only[iD];rw[decide_eq_false (by omega:¬(m.length:Int)<m.length),cond_false,Nat.sub_self,List.replicate_zero];have hV:V<4294967296 ^ (w+m.length+1):=by have h1:=fC hm;simp only[V];rw[hp2,Nat.pow_succ,Nat.pow_add,Nat.mul_left_comm,Nat.mul_assoc];refine Nat.mul_lt_mul_of_pos_left ?_ (ir w);exact Nat.mul_lt_mul_of_lt_of_le h1 (by omega) (by decide)
   have hT:T m.length=X:=by simp only[T,X]; rw[List.take_length]
   have hend:dl V (w+m.length)++[((c m.length:Nat):Int)]=dl V (w+m.length+1):=by
    rw[dl];have:c m.length=V / 4294967296 ^ (w+m.length)%4294967296:=by simp only[c];rw[hT,hVX,Nat.pow_add,<- Nat.div_div_eq_div_mul,Nat.mul_div_cancel_left _ (ir w)];rw[Nat.mod_eq_of_lt];rw[Nat.div_lt_iff_lt_mul (ir _),Nat.mul_comm];have h1:=fC hm;simp only[X];exact Nat.mul_lt_mul_of_lt_of_le h1 (by omega) (by decide)
    rw[this]
   rw[hend,fB _ (ui V _) (by rw[aL]; omega) (by rw[aL]; omega),qY hV]
theorem N8 {m:List Int} (hm:InW m) (j:Nat):∃ R,aO m / 4294967296 ^ j=(m.getD j 0).toNat+4294967296*(m.getD (j+1) 0).toNat+4294967296*4294967296*R:=by
 obtain⟨R,hR⟩:=dC m (j+2);refine⟨R,?_⟩;rw[hR,bQ,bQ];simp only[Nat.pow_succ];have e:aO (m.take j)+4294967296 ^ j*(m.getD j 0).toNat+4294967296 ^ j*4294967296*(m.getD (j+1) 0).toNat+4294967296 ^ j*4294967296*4294967296*R
   = aO (m.take j)+4294967296 ^ j*((m.getD j 0).toNat+4294967296*(m.getD (j+1) 0).toNat+4294967296*4294967296*R):=by
  rw[Nat.mul_add,Nat.mul_add,Nat.mul_assoc,Nat.mul_assoc,Nat.mul_assoc,Nat.mul_assoc]; omega
 rw[e,kn,Nat.div_eq_of_lt (df hm j),Nat.zero_add]
theorem AL {N:Nat} (m:List Int) (hm:InW m) (n:Nat) (hn:n<4294967296) (hN:bv N m) (k:List Int->Bool):DV N m n k=k (ao (aO m / 2 ^ n)):=by
 unfold DV JX;obtain⟨hN1,hN2⟩:=hN;have ew:IntKind.wrap .u64 (Int.tdiv (n:Int) 32)=((n / 32:Nat):Int):=by rw[bI,Int.tdiv_eq_ediv_of_nonneg (by omega)]; omega
 have es:Int.tmod (n:Int) 32=((n%32:Nat):Int):=by rw[Int.tmod_eq_emod_of_nonneg (by omega)]; rfl
 rw[ew,es,al (aq (by omega) (by omega))];generalize hw:n / 32=w at *;generalize hsh:n%32=s at *;have hs32:s<32:=by omega
 have hp2:2 ^ n=4294967296 ^ w*2 ^ s:=by rw[KT,hw,hsh]
 have hs0:0<2 ^ s:=Nat.two_pow_pos s;by_cases h0:m.length<=w
 ·rw[decide_eq_true (by omega:((w:Nat):Int)>=m.length),cond_true];have h1:=fC hm;have h2:4294967296 ^ m.length<=4294967296 ^ w:=Nat.pow_le_pow_right (by decide) h0;have h3:aO m / 2 ^ n=0:=by rw[hp2];refine Nat.div_eq_of_lt ?_;have:4294967296 ^ w*1<=4294967296 ^ w*2 ^ s:=Nat.mul_le_mul_left _ hs0;omega
  rw[h3,aX]
 ·rw[decide_eq_false (by omega:¬((w:Nat):Int)>=m.length),cond_false]
  let V:=aO m / 2 ^ n
  have elen:Int.toNat ((m.length:Int) - ((w:Nat):Int))=m.length - w:=by omega
  rw[elen,al (aq (by omega) (by omega)),al (oq (by omega) (by omega) (by omega) (by omega))];generalize hL:m.length - w=L at *;refine gn (λi=>((i:Int),dl V i++List.replicate (L - i) 0)) L (by simp[dl]) (by omega) (λi hi K=>?_) (λK=>?_)
  ·have hx:=hm.at (i:=w+i);have hy:=hm.at (i:=w+i+1);have hset:=BB V i L (by omega);have hl:(dl V i++List.replicate (L - i) 0).length=L:=by simp[aL]; omega
   have ei:Int.toNat ((w:Int)+(i:Int))=w+i:=by omega
   have ei1:Int.toNat ((w:Int)+(i:Int)+1)=w+i+1:=by omega
   have emin:min s 64=s:=by omega
   obtain⟨R,hR⟩:=N8 hm (w+i);have hdig:V / 4294967296 ^ i%4294967296=((m.getD (w+i) 0).toNat+4294967296*(m.getD (w+i+1) 0).toNat) / 2 ^ s%4294967296:=by
    simp only[V];rw[hp2,Nat.div_div_eq_div_mul];have e1:4294967296 ^ w*2 ^ s*4294967296 ^ i=4294967296 ^ (w+i)*2 ^ s:=by rw[Nat.pow_add,Nat.mul_assoc,Nat.mul_comm (2 ^ s),<- Nat.mul_assoc]
    rw[e1,<- Nat.div_div_eq_div_mul,hR];have e2:4294967296*4294967296*R=2 ^ s*(4294967296*(2 ^ (32 - s)*R)):=by
     have hs1:2 ^ s*2 ^ (32 - s)=4294967296:=by rw[<- Nat.pow_add,show s+(32 - s)=32 by omega]
     rw[Nat.mul_left_comm (2 ^ s),<- Nat.mul_assoc (2 ^ s),hs1,Nat.mul_assoc]
    rw[e2,Nat.add_mul_div_left _ _ hs0,Nat.add_mul_mod_self_left]
   have hfin:∀ z:Int,z=(((m.getD (w+i) 0).toNat+4294967296*(m.getD (w+i+1) 0).toNat:Nat):Int)->IntKind.wrap .u32 (Int.fdiv z (2 ^ s))=((V / 4294967296 ^ i%4294967296:Nat):Int):=by
    intro z hz;have e:(2:Int) ^ s=((2 ^ s:Nat):Int):=by simp
    rw[hdig,hz,e,Int.fdiv_eq_ediv_of_nonneg _ (by omega),kg];rfl
   simp only[gQ,Int.toNat_natCast,ei,ei1,emin,hl];rw[decide_eq_true (by omega:(i:Int)<L),cond_true,al (aq (by omega) (by omega)),al (aQ (by omega) (by omega)),al (aq (by omega) (by omega)),al (aq (by omega) (by omega))];by_cases hlast:w+i+1<m.length
   ·rw[decide_eq_true (by omega:(w:Int)+(i:Int)+1<m.length),cond_true,al (aq (by omega) (by omega)),al (aq (by omega) (by omega)),al (aQ (by omega) (by omega)),al (decide_eq_true (by omega)),al (aQ (by omega) (by omega)),al (decide_eq_true (by omega)),al (aq (by omega) (by omega))];have e1:IntKind.wrap .u64 (m.getD (w+i) 0)=(((m.getD (w+i) 0).toNat:Nat):Int):=by rw[bI]; omega
    have e2:IntKind.wrap .u64 (IntKind.wrap .u64 (m.getD (w+i+1) 0)*2 ^ 32)=((2 ^ 32*(m.getD (w+i+1) 0).toNat:Nat):Int):=by
     have:(2:Int) ^ 32=4294967296:=by decide
     have:(2:Nat) ^ 32=4294967296:=by decide
     rw[bI,bI]; omega
    have p32:(2:Nat) ^ 32=4294967296:=by decide
    rw[e1,e2,cD _ _ 32 (by omega) (by omega),hfin _ (by omega),hset];rfl
   ·rw[decide_eq_false (by omega:¬(w:Int)+(i:Int)+1<m.length),cond_false,al (decide_eq_true (by omega)),al (aQ (by omega) (by omega)),al (decide_eq_true (by omega)),al (aq (by omega) (by omega))];have hz:m.getD (w+i+1) 0=0:=jn (by omega);have e1:IntKind.wrap .u64 (m.getD (w+i) 0)=(((m.getD (w+i) 0).toNat:Nat):Int):=by rw[bI]; omega
    rw[e1,hfin _ (by rw[hz]; simp),hset];rfl
  ·simp only[gQ];have hl:(dl V L++List.replicate (L - L) 0).length=L:=by simp[aL]
   rw[decide_eq_false (by omega:¬((L:Nat):Int)<(((dl V L++List.replicate (L - L) (0:Int)).length:Nat):Int)),cond_false,Nat.sub_self,List.replicate_zero,List.append_nil];have hV:V<4294967296 ^ L:=by have h1:=fC hm;simp only[V];rw[Nat.div_lt_iff_lt_mul (Nat.two_pow_pos n),hp2,<- Nat.mul_assoc,<- Nat.pow_add,show L+w=m.length by omega];have:4294967296 ^ m.length*1<=4294967296 ^ m.length*2 ^ s:=Nat.mul_le_mul_left _ hs0;omega
   rw[fB _ (ui V _) (by rw[aL]; omega) (by rw[aL]; omega),qY hV]
theorem uC {N:Nat} (n:Nat) (hn:n<18446744073709551616) (hN:4<N) (k:List Int->Bool):AZ N n k=k (ao n):=by
 unfold AZ JK;have hw:InW [IntKind.wrap .u32 (n:Int),IntKind.wrap .u32 (Int.fdiv (n:Int) (2 ^ 32))]:=by intro x hx;simp only[kg,w8,List.mem_cons,List.not_mem_nil,or_false]at hx;rcases hx with rfl | rfl <;> omega
 have hv:aO [IntKind.wrap .u32 (n:Int),IntKind.wrap .u32 (Int.fdiv (n:Int) (2 ^ 32))]=n:=by simp only[aO,kg,w8]; omega
 rw[fB _ hw (by simp; omega) (by simp),hv]
def sg (neg:Bool) (n:Nat):Bool:=neg&&decide (n ≠ 0)
theorem qZ (n:Nat):decide (((ao n).length:Int)>0)=decide (n ≠ 0):=by
 by_cases h:n=0
 ·subst h; rw[aX]; simp
 ·obtain⟨-,h2⟩:=jX n h;rw[decide_eq_true (by omega),decide_eq_true h]
theorem Um (neg:Bool) (n:Nat) (k:Bool->List Int->Bool):cond (neg==true) (k (decide (((ao n).length:Int)>0)) (ao n)) (k false (ao n))=k (sg neg n) (ao n):=by rw[qZ];cases neg <;> rfl
theorem gp {N:Nat} (neg:Bool) (m:List Int) (b:Bool) (hm:InW m) (hN:bv N m) (k:Bool->List Int->Bool):yW N neg m b k=k (sg neg (aO m)) (ao (aO m)):=by unfold yW YY;rw[KJ m hm (by have:=hN.1; omega) (by have:=hN.2; omega)];exact Um neg _ k
theorem jJ {N:Nat} (neg:Bool) (m:List Int) (b:Bool) (l:List Int) (hm:InW m) (hN:bv N m) (k:Bool->List Int->Bool):Gm N neg m b l k=k (sg neg (aO m)) (ao (aO m)):=by unfold Gm Zb;rw[KJ m hm (by have:=hN.1; omega) (by have:=hN.2; omega)];exact Um neg _ k
theorem iA {N:Nat} (n:Nat) (hn:n<18446744073709551616) (b:Bool) (hN:bv N (ao n)) (h4:4<N) (k:Bool->List Int->Bool):O5 N n b k=k false (ao n):=by unfold O5 Y7;rw[uC n hn h4,gp false _ b (aK n) hN,aC];rfl
theorem abi {N:Nat} (b neg:Bool) (n:Nat) (hN:bv N (ao n)) (k:Bool->List Int->Bool):vO N b neg (ao n) k=k (sg neg n) (ao n):=by
 unfold vO YN UQ Qt;obtain⟨h1,h2⟩:=hN;rw[List.nil_append,decide_eq_true (by omega),Bool.true_and,oe _ (by omega) (by omega)];have hc:=oa (ao n) (ao n).length;have ht:(ao n).take (eo (ao n) (ao n).length)=ao n:=by rw[nR (aK n),aC]
 have hlen:eo (ao n) (ao n).length=(ao n).length:=by have:=congrArg List.length ht;rw[List.length_take]at this; omega
 rw[hlen];simp only[List.drop_zero,List.take_length];rw[decide_eq_true (by omega:0+(ao n).length<=(ao n).length),Bool.true_and,qZ];cases neg <;> rfl
def dK (g:Bool) (n:Nat):Int:=if g=true then -(n:Int)else n
def kj (z:Int) (k:Bool->List Int->Bool):Bool:=k (decide (z<0)) (ao z.natAbs)
theorem mo (g:Bool) (n:Nat) (k:Bool->List Int->Bool):k (sg g n) (ao n)=kj (dK g n) k:=by
 unfold kj dK sg;cases g
 ·simp only[Bool.false_eq_true,if_false,Bool.false_and,Int.natAbs_natCast];rw[decide_eq_false (by omega)]
 ·simp only[if_true,Bool.true_and,Int.natAbs_neg,Int.natAbs_natCast];congr 1;by_cases h:n=0
  ·subst h; rfl
  ·rw[decide_eq_true h,decide_eq_true (by omega)]
theorem kY (z:Int):dK (decide (z<0)) z.natAbs=z:=by
 unfold dK;by_cases h:z<0
 ·rw[decide_eq_true h]; simp; omega
 ·rw[decide_eq_false h]; simp; omega
theorem qT {x y:Nat}:decide (kA x y>=0)=decide (y<=x):=by
 unfold kA;split
 ·rw[decide_eq_false (by omega),decide_eq_false (by omega)]
 ·split
  ·rw[decide_eq_true (by omega),decide_eq_true (by omega)]
  ·rw[decide_eq_true (by omega),decide_eq_true (by omega)]
theorem Bf (g1 g2 turn:Bool) (n1 n2:Nat) (k:Bool->List Int->Bool) :
  cond (g1==(g2 != turn)) (k (sg (g2 != turn) (n1+n2)) (ao (n1+n2))) (cond (decide (kA n1 n2>=0)) (k (sg g1 (n1 - n2)) (ao (n1 - n2))) (k (sg (g2 != turn) (n2 - n1)) (ao (n2 - n1))))
   = kj (dK g1 n1+(if turn=true then -(dK g2 n2)else dK g2 n2)) k:=by
 rw[mo _ _ k,mo _ _ k,mo _ _ k,qT];have key:∀ a b:Int,a=b->kj a k=kj b k:=λa b h=>by rw[h]
 cases g1 <;> cases g2 <;> cases turn <;> simp only[dK] <;> by_cases h:n2<=n1 <;> simp only[h,decide_true,decide_false,cond_true,cond_false,bne,beq_self_eq_true,Bool.not_true,Bool.not_false,Bool.false_eq_true,if_true,if_false,(by decide:(false==true)=false),(by decide:(true==false)=false)] <;> refine key _ _ ?_ <;> omega
theorem OH {N:Nat} (turn g1:Bool) (n1:Nat) (g2:Bool) (n2:Nat) (h1:bv N (ao n1)) (h2:bv N (ao n2)) (h3:bv N (ao (n1+n2))) (k:Bool->List Int->Bool) :
  KZ N turn g1 (ao n1) g2 (ao n2) k=kj (dK g1 n1+(if turn=true then -(dK g2 n2)else dK g2 n2)) k:=by
 unfold KZ JE;have hs:∀ m,m<=n1+n2->bv N (ao m):=λm hm=>by have:=eV hm;exact⟨by have:=h3.1; omega,by have:=h3.2; omega⟩
 rw[Ds _ _ (aK _) (aK _) h1 h2,nu _ _ h1 h2,aC,aC,jJ _ _ _ _ (aK _) h3,aC,<- Bf];congr 1;by_cases h:n2<=n1
 ·rw[oi _ _ (aK _) (aK _) (by rw[aC,aC]; exact h) h1,aC,aC,jJ _ _ _ _ (aK _) (hs _ (by omega)),aC,qT,decide_eq_true h];rfl
 ·rw[oi _ _ (aK n2) (aK n1) (by rw[aC,aC]; omega) h2,aC,aC,jJ _ _ _ _ (aK _) (hs _ (by omega)),aC,qT,decide_eq_false h];rfl
theorem AM {N:Nat} (turn b g1:Bool) (n1:Nat) (g2:Bool) (n2:Nat) (h1:bv N (ao n1)) (h2:bv N (ao n2)) (h3:bv N (ao (n1+n2))) (k:Bool->List Int->Bool) :
  UK N turn b g1 (ao n1) g2 (ao n2) k=kj (dK g1 n1+(if turn=true then -(dK g2 n2)else dK g2 n2)) k:=by
 unfold UK Y_;have hs:∀ m,m<=n1+n2->bv N (ao m):=λm hm=>by have:=eV hm;exact⟨by have:=h3.1; omega,by have:=h3.2; omega⟩
 rw[Ds _ _ (aK _) (aK _) h1 h2,nu _ _ h1 h2,aC,aC,gp _ _ _ (aK _) h3,aC,<- Bf];congr 1;by_cases h:n2<=n1
 ·rw[oi _ _ (aK _) (aK _) (by rw[aC,aC]; exact h) h1,aC,aC,gp _ _ _ (aK _) (hs _ (by omega)),aC,qT,decide_eq_true h];rfl
 ·rw[oi _ _ (aK n2) (aK n1) (by rw[aC,aC]; omega) h2,aC,aC,gp _ _ _ (aK _) (hs _ (by omega)),aC,qT,decide_eq_false h];rfl
theorem Om {N:Nat} (g1:Bool) (n1:Nat) (g2:Bool) (n2:Nat) (h1:bv N (ao n1)) (h2:bv N (ao n2)) (h3:bv N (ao (n1+n2))) (k:Bool->List Int->Bool) :
  sZ4 N g1 (ao n1) g2 (ao n2) k=kj (dK g1 n1+dK g2 n2) k:=by
 unfold sZ4 GZ4;rw[OH false g1 n1 g2 n2 h1 h2 h3]; rfl
theorem OA {N:Nat} (b g1:Bool) (n1:Nat) (g2:Bool) (n2:Nat) (h1:bv N (ao n1)) (h2:bv N (ao n2)) (h3:bv N (ao (n1+n2))) (k:Bool->List Int->Bool) :
  abN N b g1 (ao n1) g2 (ao n2) k=kj (dK g1 n1 - dK g2 n2) k:=by
 unfold abN Zj;rw[AM true b g1 n1 g2 n2 h1 h2 h3]; rfl
def abV (N m s:Nat):Prop:=(ao m).length+s / 32+4<N/\(ao m).length<=1099511627776/\s<4294967296/\bv N (ao (m*2 ^ s))
theorem Ou {N:Nat} (s:Nat) (g:Bool) (n:Nat) (h:abV N n s) (k:Bool->List Int->Bool):vP N s g (ao n) k=kj (dK g (n*2 ^ s)) k:=by unfold vP YR;rw[Dr _ (aK n) s h.2.2.1 h.1 h.2.1,aC,jJ _ _ _ _ (aK _) h.2.2.2,aC,mo _ _ k]
theorem uy {N:Nat} (s:Nat) (b g:Bool) (n:Nat) (h:abV N n s) (k:Bool->List Int->Bool):UL N s b g (ao n) k=kj (dK g (n*2 ^ s)) k:=by unfold UL Ze;rw[Dr _ (aK n) s h.2.2.1 h.1 h.2.1,aC,gp _ _ _ (aK _) h.2.2.2,aC,mo _ _ k]
theorem Be {N n s:Nat} (h:bv N (ao n)):bv N (ao (n / 2 ^ s)):=by have:=eV (Nat.div_le_self n (2 ^ s));exact⟨by have:=h.1; omega,by have:=h.2; omega⟩
theorem Oy {N:Nat} (s:Nat) (n:Nat) (hs:s<4294967296) (h:bv N (ao n)) (k:Bool->List Int->Bool):uI N s false (ao n) k=k false (ao (n / 2 ^ s)):=by unfold uI YP;simp only[Bool.not_false,cond_true];rw[AL _ (aK n) s hs h,aC,jJ _ _ _ _ (aK _) (Be h),aC];rfl
theorem Ox {N:Nat} (s:Nat) (b:Bool) (n:Nat) (hs:s<4294967296) (h:bv N (ao n)) (k:Bool->List Int->Bool):La N s b false (ao n) k=k false (ao (n / 2 ^ s)):=by unfold La JP;simp only[Bool.not_false,cond_true];rw[AL _ (aK n) s hs h,aC,gp _ _ _ (aK _) (Be h),aC];rfl
theorem RG {n:Nat}:(((ao n).length:Int)==0)=decide (n=0):=by
 by_cases h:n=0
 ·subst h; rw[aX]; rfl
 ·obtain⟨-,h2⟩:=jX n h;rw[decide_eq_false h]; simp; intro h'; rw[h']at h2; simp at h2
theorem im (N:Nat) (g:Bool) (n:Nat) (k:Int->Bool):nG N g (ao n) k=k (if n=0 then 0 else if g=true then -1 else 1):=by
 unfold nG YV;rw[RG];by_cases h:n=0
 ·rw[decide_eq_true h,if_pos h]; rfl
 ·rw[decide_eq_false h,if_neg h]; cases g <;> rfl
theorem Oo {N:Nat} (x y:Nat) (hx:bv N (ao x)) (hy:bv N (ao y)) (k:Int->Bool):K8 N false (ao x) false (ao y) k=k (kA x y):=by unfold K8 JN;rw[nu x y hx hy]; rfl
theorem FE {N:Nat} (n:Nat) (hn:n<9223372036854775808) (hs:bv N (ao n)) (h4:4<N) (k:Bool->List Int->Bool):ms N n k=k false (ao n):=by
 unfold ms YQ Uu JF;have e:IntKind.wrap .u64 (n:Int)=n:=by rw[bI]; omega
 rw[decide_eq_false (by omega:¬(n:Int)<0),cond_false,e,uC n (by omega) h4,gp _ _ _ (aK _) hs,aC];rfl
theorem RH:ao 1=[1]:=by rw[dk (by decide),aX]; rfl
theorem io (N:Nat) (g:Bool) (n:Nat) (hn:n<18446744073709551616) (k:Int->Bool):sZ9 N g (ao n) k=k n:=by
 unfold sZ9 GZ9;by_cases h:n=0
 ·subst h; rw[aX]; rfl
 ·rw[dk h];by_cases h1:n / 4294967296=0
  ·rw[h1,aX];have:n%4294967296=n:=Nat.mod_eq_of_lt (by omega);rw[this];show k (IntKind.wrap .u64 (n:Int))=k n;rw[bI]; congr 1; omega
  ·rw[dk h1];have h2:n / 4294967296 / 4294967296=0:=by omega
   rw[h2,aX];have p32:(2:Nat) ^ 32=4294967296:=by decide
   have e1:IntKind.wrap .u64 ((n%4294967296:Nat):Int)=((n%4294967296:Nat):Int):=by rw[bI]; omega
   have e2:IntKind.wrap .u64 (IntKind.wrap .u64 ((n / 4294967296%4294967296:Nat):Int)*2 ^ 32)=((2 ^ 32*(n / 4294967296):Nat):Int):=by
    have:(2:Int) ^ 32=4294967296:=by decide
    rw[bI,bI]; omega
   show k (av .or .u64 (IntKind.wrap .u64 ((n%4294967296:Nat):Int)) (IntKind.wrap .u64 (IntKind.wrap .u64 ((n / 4294967296%4294967296:Nat):Int)*2 ^ 32)))=k n;rw[e1,e2,cD _ _ 32 (by omega) (by omega)];congr 1; omega
theorem k8 (a b:Nat):Int.fdiv (a:Int) (b:Int)=((a / b:Nat):Int):=by rw[Int.fdiv_eq_ediv_of_nonneg _ (by omega)]; rfl
theorem mG (N:Nat) (k:Int->Bool):Ls N 52 2047 1075 k=k 9223372036854775808:=by rfl
theorem jj (N:Nat) (k:Int->Bool):K6 N 52 2047 1075 k=k 9218868437227405312:=by rfl
theorem kp (N:Nat) (k:Int->Bool):UN N 52 2047 1075 k=k 4503599627370496:=by rfl
theorem vN (N:Nat) (k:Int->Bool):Lz N 52 2047 1075 k=k 9221120237041090561:=by unfold Lz Ke;simp only[jj,kp];exact congrArg k (by decide)
theorem abj (N:Nat) (b:Nat) (k:Bool->Bool):K3 N b 52 2047 1075 k=k (isNaN b):=by unfold K3 JJ;simp only[mG,jj,h_];congr 1;rw[Bool.eq_iff_iff,decide_eq_true_iff,fA];omega
def cnb (b:Nat):Nat:=if isNaN b then 9221120237041090561 else b
theorem OC (N:Nat) (b:Nat) (k:Int->Bool):abK N b 52 2047 1075 k=k (cnb b):=by unfold abK Zg;simp only[abj,vN,cnb];cases isNaN b <;> rfl
theorem OG (N:Nat) (b:Nat) (k:Bool->Int->Int->Bool):UJ N b 52 2047 1075 k=k (av .and .u64 (cnb b) 9223372036854775808 != 0) ((cnb b / 4503599627370496%2048:Nat):Int) ((cnb b%4503599627370496:Nat):Int):=by
 unfold UJ Y0;simp only[OC,mG,kp];have e1:(2:Int) ^ (min (Int.toNat 52) 64)=((4503599627370496:Nat):Int):=by decide
 have e2:IntKind.wrap .u64 2047=((2 ^ 11 - 1:Nat):Int):=by decide
 have e3:IntKind.wrap .u64 (4503599627370496 - 1)=((2 ^ 52 - 1:Nat):Int):=by decide
 have e4:decide ((0:Int)<=52)=true:=by decide
 rw[e1,k8,e2,e3,dI _ _ (by decide),dI _ _ (by decide),e4,aq (by omega) (by omega)];rfl
theorem Kw (b:Nat):cls b=if (cnb b / 4503599627370496%2048)=2047 then(if cnb b%4503599627370496=0 then 2 else 1)else if cnb b / 4503599627370496%2048=0 then(if cnb b%4503599627370496=0 then 3 else 4)else 5:=by
 unfold cls cnb;by_cases h:isNaN b=true
 ·rw[if_pos h,if_pos h]; decide
 ·rw[if_neg h,if_neg h];have hn:¬(9218868437227405312<b%9223372036854775808):=λq=>h ((fA b).2 q)
  by_cases h1:b / 4503599627370496%2048=2047
  ·rw[if_pos h1,if_pos h1,if_pos (by omega)]
  ·rw[if_neg h1,if_neg h1]
theorem OD (N:Nat) (b:Nat) (k:Int->Bool):UI N b 52 2047 1075 k=k (cls b):=by
 unfold UI YZ;simp only[OG,Kw b];generalize cnb b / 4503599627370496%2048=e;generalize cnb b%4503599627370496=f;have d1:((e:Int)==2047)=decide (e=2047):=by rw[Bool.eq_iff_iff,beq_iff_eq,decide_eq_true_iff]; omega
 have d2:((e:Int)==0)=decide (e=0):=by rw[Bool.eq_iff_iff,beq_iff_eq,decide_eq_true_iff]; omega
 have d3:((f:Int)==0)=decide (f=0):=by rw[Bool.eq_iff_iff,beq_iff_eq,decide_eq_true_iff]; omega
 simp only[bne,d1,d2,d3];by_cases h1:e=2047 <;> by_cases h2:e=0 <;> by_cases h3:f=0 <;> simp[h1,h2,h3]
theorem On (N:Nat) (b:Nat) (k:Int->Bool):A9 N b k=k (cls b):=by unfold A9 Kc;simp only[D1,wm,v5,OD]
theorem abh (N:Nat) (b:Nat) (k:Fl->Bool):A_ N b k=k (cW (some b)):=by unfold A_ Kg;simp only[D1,pj,h_];rfl
theorem E7 (b:Bool) (k:Bool->Bool):cond b (k true) (k false)=k b:=by cases b <;> rfl
theorem aA {a c:Bool} (h:a=true):(a&&c)=c:=by rw[h]; rfl
def zG (N n:Nat):Prop:=n<N/\n<=17592186044416
def bA (xs:List Fl):Bool:=NR (λi=>ar (xs.getD i none)) xs.length
theorem pO {N:Nat} (xs:List Fl) (hl:zG N xs.length) (k:Bool->Bool):DQ N xs k=k (bA xs):=by
 unfold DQ JG DZ;rw[<- E7 (bA xs) k];refine(uv (λi=>(i:Int)) (λi=>ar (xs.getD i none)) xs.length hl.1 (λi hi K=>?_) (λK=>?_):_)
 ·have h2:=hl.2;simp only[gN,Int.toNat_natCast];rw[dT (by omega),cond_true,aA (aQ (by omega) (by omega)),aA (aq (by omega) (by omega))];have hc:=CX (xs.getD i none);generalize wN (xs.getD i none)=c at hc ⊢;generalize ar (xs.getD i none)=f at hc ⊢;have d1:(c==1)=decide (c=1):=rfl;have d2:(c==2)=decide (c=2):=rfl;rw[d1,d2];generalize decide (c=1)=u at *;generalize decide (c=2)=v at *;cases u <;> cases v <;> cases f <;> first | rfl | cases hc
 ·simp only[gN];rw[dZ (by omega),cond_false]
def kS:Fl->Nat
 | none=>9221120237041090561
 | some b=>cnb b
theorem xP (d:Ieee.Datum) (h:d.isNaN=false):d.order d=some .eq:=by
 cases d with
 | nan s t=>cases h
 | infinity s=>simp[Ieee.Datum.order,compare,compareOfLessAndEq]
 | number s m i=>simp[Ieee.Datum.order,compare,compareOfLessAndEq]
theorem Of (b:Nat) (h:isNaN b=false):(Ieee.double.order b b==some .eq)=true:=by unfold Ieee.Format.order;rw[xP _ h]; rfl
theorem RP (b:Nat):feq (some b) (some b) = !isNaN b:=by
 cases h:isNaN b with
 | true=>simp[feq,lU,gJ b h]
 | false=>simp only[feq,lU,Bool.not_false]; exact Of b h
theorem TR (N:Nat) (x:Fl) (k:Int->Bool):Lv N x k=k (kS x):=by
 unfold Lv Kb kr;cases x with
 | none=>rfl
 | some b=>
  rw[RP];simp only[kS,cnb];cases isNaN b <;> rfl
theorem Dx (a b:Nat):Int.tmod (a:Int) (b:Int)=((a%b:Nat):Int):=by rw[Int.tmod_eq_emod_of_nonneg (by omega)]; rfl
theorem AJ (N:Nat) (x:Fl) (k:Bool->Int->Int->Bool):A3 N x k=k (Int.fdiv (kS x:Int) (2 ^ 63)==1) ((kS x / 4503599627370496%2048:Nat):Int) ((kS x%4503599627370496:Nat):Int):=by
 unfold A3 JL;simp only[TR];have e1:(2:Int) ^ 52=((4503599627370496:Nat):Int):=by decide
 have e2:(2048:Int)=((2048:Nat):Int):=rfl;have e3:(4503599627370496:Int)=((4503599627370496:Nat):Int):=rfl;rw[e1,e2,e3,k8,Dx,Dx,aq (by omega) (by omega)];rfl
theorem NZ (x:Fl):wN x=if (kS x / 4503599627370496%2048)=2047 then(if kS x%4503599627370496=0 then 2 else 1)else if kS x / 4503599627370496%2048=0 then(if kS x%4503599627370496=0 then 3 else 4)else 5:=by
 cases x with
 | none=>decide
 | some b=>exact Kw b
theorem yT (N:Nat) (x:Fl) (k:Int->Bool):Lp N x k=k (wN x):=by
 unfold Lp J6 Ux JY;simp only[AJ,NZ x];generalize kS x / 4503599627370496%2048=e;generalize kS x%4503599627370496=f;have d1:((e:Int)==2047)=decide (e=2047):=by rw[Bool.eq_iff_iff,beq_iff_eq,decide_eq_true_iff]; omega
 have d2:((e:Int)==0)=decide (e=0):=by rw[Bool.eq_iff_iff,beq_iff_eq,decide_eq_true_iff]; omega
 have d3:((f:Int)==0)=decide (f=0):=by rw[Bool.eq_iff_iff,beq_iff_eq,decide_eq_true_iff]; omega
 simp only[bne,d1,d2,d3];by_cases h1:e=2047 <;> by_cases h2:e=0 <;> by_cases h3:f=0 <;> simp[h1,h2,h3]
theorem nv (N:Nat) (x:Fl) (k:Bool->Bool):UP N x k=k (ar x):=by
 unfold UP Zk;simp only[yT];congr 1;have h1:=CX x;have h2:=Zy x;rw[Bool.eq_iff_iff,decide_eq_true_iff];cases hf:ar x with
 | true=>
  rw[hf]at h1;simp only[Bool.not_true,Bool.or_eq_false_iff,decide_eq_false_iff_not]at h1;exact⟨λ_=>rfl,λ_=>by omega⟩
 | false=>
  rw[hf]at h1;simp only[Bool.not_false,Bool.or_eq_true,decide_eq_true_eq]at h1;exact⟨λ_=>by omega,λh=>by cases h⟩
theorem iz {N:Nat} (xs:List Fl) (hl:zG N xs.length) (k:Bool->Bool):O6 N xs k=k (bA xs):=by
 unfold O6 Y8;rw[<- E7 (bA xs) k];refine(uv (λi=>(i:Int)) (λi=>ar (xs.getD i none)) xs.length hl.1 (λi hi K=>?_) (λK=>?_):_)
 ·have h2:=hl.2;simp only[Ca,Int.toNat_natCast,nv];rw[dT (by omega),cond_true,aA (aQ (by omega) (by omega)),aA (aq (by omega) (by omega))];cases ar (xs.getD i none) <;> rfl
 ·simp only[Ca];rw[dZ (by omega),cond_false]
theorem jG {σ:Type} {step:σ->(σ->Bool)->Bool} {s:σ} (C:Nat->σ) (n:Nat) {N:Nat} (h0:s=C 0) (hn:n<N) {out:Bool} (hs:∀ i,i<n -> ∀ K:σ->Bool,step (C i) K=K (C (i+1))) (hx:∀ K,step (C n) K=out):aH N step s=out:=by subst h0; exact Do C n hn hs hx
theorem iG:∀(j n:Nat),n<4294967296 ^ j->(ao n).length<=j
 | 0,n,h=>by
  have:n=0:=by simp at h; exact h
  subst this; rw[aX]; exact Nat.le_refl _
 | j+1,n,h=>by
  by_cases h0:n=0
  ·subst h0; rw[aX]; simp
  ·rw[dk h0,List.length_cons];have:n / 4294967296<4294967296 ^ j:=Nat.div_lt_of_lt_mul (by rw[Nat.pow_succ]at h; omega);have:=iG j _ this;omega
theorem ow {N n j:Nat} (hN:1000<=N) (hj:j<=900) (h:n<4294967296 ^ j):bv N (ao n):=by have:=iG j n h;exact⟨by omega,by omega⟩
theorem aS {N n:Nat} (hN:1000<=N) (h:n<18446744073709551616):bv N (ao n):=ow (j:=2) hN (by decide) (by
 have:(4294967296:Nat) ^ 2=18446744073709551616:=by decide
 omega)
theorem Ul (j:Nat):4294967296 ^ j=2 ^ (32*j):=by rw[Nat.pow_mul]
theorem B7 {N n s:Nat} (hN:1000<=N) (h:n<18446744073709551616) (hs:s<=7000):abV N n s:=by
 have h2:(ao n).length<=2:=iG 2 n (by
  have:(4294967296:Nat) ^ 2=18446744073709551616:=by decide
  omega)
 refine⟨by omega,by omega,by omega,ow (j:=221) hN (by decide) ?_⟩;rw[Ul];have hE:64+s<=32*221:=by omega
 generalize 32*221=E at hE ⊢;have h64:n<2 ^ 64:=by
  have:(2:Nat) ^ 64=18446744073709551616:=by decide
  omega
 have h1:n*2 ^ s<2 ^ 64*2 ^ s:=Nat.mul_lt_mul_of_pos_right h64 (Nat.two_pow_pos s);rw[<- Nat.pow_add]at h1;exact Nat.lt_of_lt_of_le h1 (Nat.pow_le_pow_right (by decide) hE)
theorem nq (n:Nat) (k:Bool->List Int->Bool):kj (n:Int) k=k false (ao n):=by unfold kj;rw[decide_eq_false (by omega),Int.natAbs_natCast]
theorem f_ (n:Nat):dK false n=n:=rfl
theorem lO {q:Nat} (h:q<9007199254740992):bl q<=53:=by
 unfold bl; split
 ·omega
 ·rename_i h0;have:=(Nat.log2_lt h0).2 (show q<2 ^ 53 by simpa using h);omega
theorem Bv {q:Nat} (h:bl q<53):q<4503599627370496:=by
 unfold bl at h; split at h
 ·omega
 ·rename_i h0;have:=(Nat.log2_lt h0).1 (show q.log2<52 by omega);simpa using this
theorem Bu {q:Nat} (h:¬ bl q<53):4503599627370496<=q:=by
 rcases Nat.lt_or_ge q 4503599627370496 with h1 | h1
 ·exfalso;apply h;unfold bl; split
  ·omega
  ·rename_i h0;have:=(Nat.log2_lt h0).2 (show q<2 ^ 52 by simpa using h1);omega
 ·exact h1
theorem Bt:bl 9007199254740992=54:=by decide
theorem Q4 {m:Nat} (h:m ≠ 0):bl m=m.log2+1:=by unfold bl; rw[if_neg h]
theorem or0 (n:Nat) (h:n<18446744073709551616):av .or .u64 0 (n:Int)=n:=by have:=cD 0 n 0 (by decide) (by omega);simpa using this
theorem Uj (n:Nat) (h:n<9223372036854775808):av .or .u64 (n:Int) 9223372036854775808=((9223372036854775808+n:Nat):Int):=by have:=cD n 1 63 (by simpa using h) (by simp; omega);simpa using this
theorem amJ (f n:Nat) (hf:f<2048) (h:n<4503599627370496):av .or .u64 ((f*4503599627370496:Nat):Int) (n:Int)=((f*4503599627370496+n:Nat):Int):=by
 have e:av .or .u64 ((f*4503599627370496:Nat):Int) (n:Int)=av .or .u64 (n:Int) ((f*4503599627370496:Nat):Int):=by unfold av jV;simp only[Option.getD_some];rw[show(BitVec.ofInt (IntKind.bits .u64) ((f*4503599627370496:Nat):Int) ||| BitVec.ofInt (IntKind.bits .u64) (n:Int))=(BitVec.ofInt (IntKind.bits .u64) (n:Int) ||| BitVec.ofInt (IntKind.bits .u64) ((f*4503599627370496:Nat):Int)) from BitVec.or_comm _ _]
 rw[e];have:=cD n f 52 (by simpa using h) (by simp; omega);rw[show(2:Nat) ^ 52*f=f*4503599627370496 by rw[Nat.mul_comm]]at this;exact this
theorem CP (n:Nat):av .and .u64 (n:Int) 4503599627370495=((n%4503599627370496:Nat):Int):=by have:=dI n 52 (by decide);simpa using this
theorem Zt (a:Nat):av .and .u32 (a:Int) 1=((a%2:Nat):Int):=by
 unfold av jV;simp only[Option.getD_some];have e:((BitVec.ofInt (IntKind.bits .u32) (a:Int)) &&& (BitVec.ofInt (IntKind.bits .u32) (1:Int))).toNat=a%2:=by show((BitVec.ofInt 32 (a:Int)) &&& (BitVec.ofInt 32 ((2 ^ 1 - 1:Nat):Int))).toNat=a%2 ^ 1;rw[BitVec.toNat_and,BitVec.ofInt_natCast,BitVec.ofInt_natCast,BitVec.toNat_ofNat,BitVec.toNat_ofNat,Nat.mod_eq_of_lt (a:=2 ^ 1 - 1) (by decide),Nat.and_two_pow_sub_one_eq_mod,Nat.mod_mod_of_dvd];exact Nat.pow_dvd_pow 2 (by decide)
 rw[e,En];omega
theorem oj {N:Nat} (neg:Bool) (f n:Nat) (hf:f<2048) (h:n<4503599627370496) (k:Int->Bool):pY N neg f n k=k ((Ieee.double.word neg (f*4503599627370496+n):Nat):Int):=by
 unfold pY Zc;have e:IntKind.wrap .u64 (IntKind.wrap .u64 (f:Int)*2 ^ 52)=((f*4503599627370496:Nat):Int):=by
  rw[fe f (by omega),bI];have:(2:Int) ^ 52=4503599627370496:=by decide
  rw[this]; omega
 rw[e,amJ _ _ hf h];cases neg
 ·rfl
 ·rw[cond_true,Uj _ (by omega)]; rfl
theorem uB {N:Nat} (neg:Bool) (n:Nat) (h:n<4503599627370496) (k:Int->Bool):pY N neg 0 n k=k ((Ieee.double.word neg (0+n):Nat):Int):=by have:=oj (N:=N) neg 0 n (by decide) h k;rw[Nat.zero_mul]at this;exact this
theorem FF {N:Nat} (neg:Bool) (k:Int->Bool):UF N neg k=k ((Ieee.double.word neg 0:Nat):Int):=by have:=oj (N:=N) neg 0 0 (by decide) (by decide) k;exact this
theorem rB {N:Nat} (neg:Bool) (k:Int->Bool):K7 N neg k=k ((Ieee.double.word neg 9218868437227405312:Nat):Int):=by have:=oj (N:=N) neg 2047 0 (by decide) (by decide) k;exact this
theorem xD {N:Nat} (neg:Bool) (k:Int->Bool):xZ N neg k=k ((Ieee.double.word neg 9218868437227405312:Nat):Int):=rB (N:=N) neg k
theorem vk {N:Nat} (hN:1000<=N) (k:Bool->List Int->Bool):ms N 1 k=k false (ao 1):=FE (N:=N) 1 (by decide) (aS hN (by decide)) (by omega) k
theorem xB {N:Nat} (n:Nat) (k:Bool->List Int->Bool) (h:bv N (ao n)):uI N 1 false (ao n) k=k false (ao (n / 2)):=Oy (N:=N) 1 n (by decide) h k
theorem OE {N:Nat} (hN:1000<=N) (m d:Nat) (hm:m<18446744073709551616) (h1:1<=d) (hd:d<=6900) (k:Int->Bool->List Int->Bool) :
  vR N (d:Int) false (ao m) k=k (if m%2 ^ d=0 then -2 else kA (m%2 ^ d) (2 ^ (d - 1))) false (ao (m / 2 ^ d)):=by
 unfold vR Za;have hmd:m / 2 ^ d*2 ^ d<=m:=Nat.div_mul_le_self _ _;have hq:m / 2 ^ d<=m:=Nat.div_le_self _ _;have hr:m%2 ^ d<=m:=Nat.mod_le _ _;have hme:m / 2 ^ d*2 ^ d+m%2 ^ d=m:=by rw[Nat.mul_comm]; exact Nat.div_add_mod _ _
 rw[fe d (by omega),Ox d false m (by omega) (aS hN hm),uy d false false _ (B7 hN (by omega) (by omega)),f_,nq,
  OA false false m false _ (aS hN hm) (aS hN (by omega)) (ow (j:=3) hN (by decide) (by
   have:(4294967296:Nat) ^ 3=79228162514264337593543950336:=by decide
   omega)),f_,f_]
 have e:(m:Int) - ((m / 2 ^ d*2 ^ d:Nat):Int)=((m%2 ^ d:Nat):Int):=by omega
 have e0:((d:Int)==0)=false:=by simp; omega
 rw[e,nq,e0,cond_false,im];by_cases hz:m%2 ^ d=0
 ·rw[if_pos hz,if_pos hz]; rfl
 ·rw[if_neg hz,if_neg hz];simp only[Bool.false_eq_true,if_false];show ms N 1 _=_;have e1:IntKind.wrap .u64 ((d:Int) - 1)=((d - 1:Nat):Int):=by rw[bI]; omega
  have hp1:=ow (N:=N) (n:=2 ^ (d - 1)) (j:=220) hN (by decide) (by
   rw[Ul];have hE:d - 1<32*220:=by omega
   generalize 32*220=E at hE ⊢;exact Nat.pow_lt_pow_right (by decide) hE)
  rw[vk hN,al (aq (by omega) (by omega)),e1,uy (d - 1) false false 1 (B7 hN (by decide) (by omega)),f_,Nat.one_mul,nq,Oo _ _ (aS hN (by omega)) hp1];cases (kA (m%2 ^ d) (2 ^ (d - 1))==0)==true <;> rfl
theorem N6 (q:Nat):(ao q).getD 0 0=((q%4294967296:Nat):Int):=by
 by_cases h:q=0
 ·subst h; rw[aX]; rfl
 ·rw[dk h]; rfl
theorem TQ (N:Nat) (q:Nat) (k:Int->Bool):Li N 0 false (ao q) k=k ((q%2:Nat):Int):=by
 unfold Li zw;rw[cond_false];unfold QA Ki;have e0:Int.tdiv 0 32=0:=by decide
 have e1:Int.tmod 0 32=0:=by decide
 rw[e0,e1,al (by decide)];by_cases h:q=0
 ·subst h; rw[aX]; rfl
 ·have hl:0<(ao q).length:=by rw[dk h]; simp
  rw[decide_eq_true (by omega),cond_true,al (by decide),al (aQ (by decide) (by omega)),al (by decide),cond_false];have e2:Int.toNat 0=0:=rfl;rw[e2,N6];have e3:(min (Int.toNat (IntKind.wrap .u64 0)) 32)=0:=by decide
  rw[e3];have e4:Int.fdiv ((q%4294967296:Nat):Int) (2 ^ 0)=((q%4294967296:Nat):Int):=by rw[show(2:Int) ^ 0=((1:Nat):Int) from rfl,k8,Nat.div_one]
  rw[e4,Zt,fe _ (by omega)];congr 1;omega
theorem xC (N:Nat) (neg:Bool) (c:Int) (q:Nat) (k:Bool->Bool):vQ N neg c false (ao q) k=k (decide (c>0)||(decide (c=0)&&decide (q%2=1))):=by
 unfold vQ YX;by_cases h1:c>0
 ·rw[decide_eq_true h1]; rfl
 ·rw[decide_eq_false h1];by_cases h2:c=0
  ·subst h2;rw[show((0:Int)==0)=true from rfl,TQ];simp only[beq_self_eq_true,cond_true,Bool.false_or,decide_true,Bool.true_and];congr 1;rw[Bool.eq_iff_iff]; simp; omega
  ·have:(c==0)=false:=by simp[h2]
   rw[this,decide_eq_false h2]; rfl
theorem X0 {N:Nat} (hN:1000<=N) (neg:Bool) (e:Int) (b:Bool) (b_1:List Int) (L:Int) (q:Nat) (hL : -1074<=L) (hL2:L<=100000) (hq:q<9007199254740992) (hlow:q<4503599627370496->L = -1074) (k:Int->Int->Bool) :
  ∃ f,CD N (sZ7 N) (vO N) (vP N) (vR N) (vQ N) (ms N) (sZ4 N) (uI N) (xZ N) (sZ9 N) (pY N) neg e b b_1 L false (ao q) k=k ((Ieee.double.word neg (min ((L+1074).toNat*4503599627370496+q) 9218868437227405312):Nat):Int) f:=by
 unfold CD;have hbl:=lO hq;have hs:bv N (ao q):=aS hN (by omega);rw[dB _ _ hs,al (aq (by omega) (by omega)),al (aq (by omega) (by omega))];by_cases ho:L+(bl q:Int) - 1>1023
 ·rw[decide_eq_true ho,cond_true,xD];have hq1:¬ q<4503599627370496:=λh=>by have:=hlow h; omega
  refine⟨5,?_⟩;congr 3;omega
 ·rw[decide_eq_false ho,cond_false,dB _ _ hs];by_cases h53:(bl q:Int)<53
  ·rw[decide_eq_true h53,cond_true];have hq1:=Bv (by omega:bl q<53);rw[io _ _ _ (by omega),uB _ _ hq1];have:=hlow hq1;subst this;refine⟨0,?_⟩;congr 3;omega
  ·rw[decide_eq_false h53,cond_false,al (aq (by omega) (by omega)),al (aq (by omega) (by omega)),io _ _ _ (by omega),CP];have hq1:=Bu (by omega:¬ bl q<53);have e1:L - -1074+1=(((L+1075).toNat:Nat):Int):=by omega
   have hb53:bl q=53:=by omega
   rw[e1,oj _ _ _ (by omega) (by omega)];refine⟨0,?_⟩;congr 3;omega
theorem ahy {N:Nat} (hN:1000<=N) (neg:Bool) (e:Int) (b:Bool) (b_1:List Int) (top:Int) (L:Int) (q:Nat) (hL : -1074<=L) (hL2:L<=90000) (hq:q<=9007199254740992) (hlow:q<4503599627370496->L = -1074) (k:Int->Int->Bool) :
  ∃ f,Kj N (sZ7 N) (vO N) (vP N) (vR N) (vQ N) (ms N) (sZ4 N) (uI N) (xZ N) (sZ9 N) (pY N) neg e b b_1 top L false (ao q) k=k ((Ieee.double.word neg (min ((L+1074).toNat*4503599627370496+q) 9218868437227405312):Nat):Int) f:=by
 unfold Kj;have hs:bv N (ao q):=aS hN (by omega);rw[dB _ _ hs];by_cases h:q<9007199254740992
 ·have hbl:=lO h;rw[decide_eq_false (by omega),cond_false];exact X0 hN neg e b b_1 L q hL (by omega) h hlow k
 ·obtain rfl:q=9007199254740992:=by omega
  rw[decide_eq_true (by rw[Bt]; decide),cond_true,xB _ _ hs,show 9007199254740992 / 2=4503599627370496 by decide,al (aq (by omega) (by omega))];obtain⟨f,hf⟩:=X0 hN neg e b b_1 (L+1) 4503599627370496 (by omega) (by omega) (by decide) (λh=>absurd h (by decide)) k;have e9:((L+1+1074).toNat*4503599627370496+4503599627370496)=((L+1074).toNat*4503599627370496+9007199254740992):=by omega
  rw[e9]at hf;exact⟨f,hf⟩
theorem X4 {N:Nat} (hN:1000<=N) (neg:Bool) (e:Int) (b:Bool) (b_1:List Int) (L:Int) (fl:Int) (q:Nat) (hL : -1074<=L) (hL2:L<=100000) (hq:q<9007199254740992) (hlow:q<4503599627370496->L = -1074) (k:Int->Int->Bool) :
  ∃ f,CE N (sZ7 N) (vO N) (vP N) (vR N) (vQ N) (ms N) (sZ4 N) (uI N) (xZ N) (sZ9 N) (pY N) neg e b b_1 L fl false (ao q) k=k ((Ieee.double.word neg (min ((L+1074).toNat*4503599627370496+q) 9218868437227405312):Nat):Int) f:=by
 unfold CE;have hbl:=lO hq;have hs:bv N (ao q):=aS hN (by omega);rw[dB _ _ hs,al (aq (by omega) (by omega)),al (aq (by omega) (by omega))];by_cases ho:L+(bl q:Int) - 1>1023
 ·rw[decide_eq_true ho,cond_true,xD];have hq1:¬ q<4503599627370496:=λh=>by have:=hlow h; omega
  refine⟨5,?_⟩;congr 3;omega
 ·rw[decide_eq_false ho,cond_false,dB _ _ hs];by_cases h53:(bl q:Int)<53
  ·rw[decide_eq_true h53,cond_true];have hq1:=Bv (by omega:bl q<53);rw[io _ _ _ (by omega),uB _ _ hq1];have:=hlow hq1;subst this;refine⟨fl,?_⟩;congr 3;omega
  ·rw[decide_eq_false h53,cond_false,al (aq (by omega) (by omega)),al (aq (by omega) (by omega)),io _ _ _ (by omega),CP];have hq1:=Bu (by omega:¬ bl q<53);have e1:L - -1074+1=(((L+1075).toNat:Nat):Int):=by omega
   have hb53:bl q=53:=by omega
   rw[e1,oj _ _ _ (by omega) (by omega)];refine⟨fl,?_⟩;congr 3;omega
theorem Im {N:Nat} (hN:1000<=N) (neg:Bool) (e:Int) (b:Bool) (b_1:List Int) (L:Int) (fl:Int) (q:Nat) (hL : -1074<=L) (hL2:L<=90000) (hq:q<=9007199254740992) (hlow:q<4503599627370496->L = -1074) (k:Int->Int->Bool) :
  ∃ f,zE N (sZ7 N) (vO N) (vP N) (vR N) (vQ N) (ms N) (sZ4 N) (uI N) (xZ N) (sZ9 N) (pY N) neg e b b_1 L fl false (ao q) k=k ((Ieee.double.word neg (min ((L+1074).toNat*4503599627370496+q) 9218868437227405312):Nat):Int) f:=by
 unfold zE;have hs:bv N (ao q):=aS hN (by omega);rw[dB _ _ hs];by_cases h:q<9007199254740992
 ·have hbl:=lO h;rw[decide_eq_false (by omega),cond_false];exact X4 hN neg e b b_1 L fl q hL (by omega) h hlow k
 ·obtain rfl:q=9007199254740992:=by omega
  rw[decide_eq_true (by rw[Bt]; decide),cond_true,xB _ _ hs,show 9007199254740992 / 2=4503599627370496 by decide,al (aq (by omega) (by omega))];obtain⟨f,hf⟩:=X4 hN neg e b b_1 (L+1) fl 4503599627370496 (by omega) (by omega) (by decide) (λh=>absurd h (by decide)) k;have e9:((L+1+1074).toNat*4503599627370496+4503599627370496)=((L+1074).toNat*4503599627370496+9007199254740992):=by omega
  rw[e9]at hf;exact⟨f,hf⟩
theorem Nj {N:Nat} (hN:1000<=N) (neg:Bool) (e:Int) (b:Bool) (b_1:List Int) (L:Int) (fl:Int) (q:Nat) (hL : -1074<=L) (hL2:L<=100000) (hq:q<9007199254740992) (hlow:q<4503599627370496->L = -1074) (k:Int->Int->Bool) :
  ∃ f,CB N (sZ7 N) (vO N) (vP N) (vR N) (vQ N) (ms N) (sZ4 N) (uI N) (xZ N) (sZ9 N) (pY N) neg e b b_1 L fl false (ao q) k=k ((Ieee.double.word neg (min ((L+1074).toNat*4503599627370496+q) 9218868437227405312):Nat):Int) f:=by
 unfold CB;have hbl:=lO hq;have hs:bv N (ao q):=aS hN (by omega);rw[dB _ _ hs,al (aq (by omega) (by omega)),al (aq (by omega) (by omega))];by_cases ho:L+(bl q:Int) - 1>1023
 ·rw[decide_eq_true ho,cond_true,xD];have hq1:¬ q<4503599627370496:=λh=>by have:=hlow h; omega
  refine⟨5,?_⟩;congr 3;omega
 ·rw[decide_eq_false ho,cond_false,dB _ _ hs];by_cases h53:(bl q:Int)<53
  ·rw[decide_eq_true h53,cond_true];have hq1:=Bv (by omega:bl q<53);rw[io _ _ _ (by omega),uB _ _ hq1];have:=hlow hq1;subst this;refine⟨fl,?_⟩;congr 3;omega
  ·rw[decide_eq_false h53,cond_false,al (aq (by omega) (by omega)),al (aq (by omega) (by omega)),io _ _ _ (by omega),CP];have hq1:=Bu (by omega:¬ bl q<53);have e1:L - -1074+1=(((L+1075).toNat:Nat):Int):=by omega
   have hb53:bl q=53:=by omega
   rw[e1,oj _ _ _ (by omega) (by omega)];refine⟨fl,?_⟩;congr 3;omega
theorem Cc {N:Nat} (hN:1000<=N) (neg:Bool) (e:Int) (b:Bool) (b_1:List Int) (L:Int) (fl:Int) (q:Nat) (hL : -1074<=L) (hL2:L<=90000) (hq:q<=9007199254740992) (hlow:q<4503599627370496->L = -1074) (k:Int->Int->Bool) :
  ∃ f,zD N (sZ7 N) (vO N) (vP N) (vR N) (vQ N) (ms N) (sZ4 N) (uI N) (xZ N) (sZ9 N) (pY N) neg e b b_1 L fl false (ao q) k=k ((Ieee.double.word neg (min ((L+1074).toNat*4503599627370496+q) 9218868437227405312):Nat):Int) f:=by
 unfold zD;have hs:bv N (ao q):=aS hN (by omega);rw[dB _ _ hs];by_cases h:q<9007199254740992
 ·have hbl:=lO h;rw[decide_eq_false (by omega),cond_false];exact Nj hN neg e b b_1 L fl q hL (by omega) h hlow k
 ·obtain rfl:q=9007199254740992:=by omega
  rw[decide_eq_true (by rw[Bt]; decide),cond_true,xB _ _ hs,show 9007199254740992 / 2=4503599627370496 by decide,al (aq (by omega) (by omega))];obtain⟨f,hf⟩:=Nj hN neg e b b_1 (L+1) fl 4503599627370496 (by omega) (by omega) (by decide) (λh=>absurd h (by decide)) k;have e9:((L+1+1074).toNat*4503599627370496+4503599627370496)=((L+1074).toNat*4503599627370496+9007199254740992):=by omega
  rw[e9]at hf;exact⟨f,hf⟩
theorem ahz {N:Nat} (hN:1000<=N) (neg:Bool) (e:Int) (b:Bool) (b_1:List Int) (top L c:Int) (q:Nat) (hL : -1074<=L) (hL2:L<=90000) (hq:q<=9007199254740992) (hlow:q<4503599627370496->L = -1074) (k:Int->Int->Bool) :
  ∃ f,Kk N (sZ7 N) (vO N) (vP N) (vR N) (vQ N) (ms N) (sZ4 N) (uI N) (xZ N) (sZ9 N) (pY N) neg e b b_1 top L c false (ao q) k=k ((Ieee.double.word neg (min ((L+1074).toNat*4503599627370496+q) 9218868437227405312):Nat):Int) f:=by
 unfold Kk;cases decide (c > -2)with
 | false=>rw[cond_false]; exact Im hN neg e b b_1 L 0 q hL hL2 hq hlow k
 | true=>
  rw[cond_true];cases decide (top < -1022)with
  | false=>rw[cond_false]; exact Im hN neg e b b_1 L 1 q hL hL2 hq hlow k
  | true=>rw[cond_true]; exact Im hN neg e b b_1 L 3 q hL hL2 hq hlow k
theorem ahA {N:Nat} (hN:1000<=N) (neg:Bool) (e:Int) (b:Bool) (b_1:List Int) (top L c:Int) (q:Nat) (hL : -1074<=L) (hL2:L<=90000) (hq:q<=9007199254740992) (hlow:q<4503599627370496->L = -1074) (k:Int->Int->Bool) :
  ∃ f,Kl N (sZ7 N) (vO N) (vP N) (vR N) (vQ N) (ms N) (sZ4 N) (uI N) (xZ N) (sZ9 N) (pY N) neg e b b_1 top L c false (ao q) k=k ((Ieee.double.word neg (min ((L+1074).toNat*4503599627370496+q) 9218868437227405312):Nat):Int) f:=by
 unfold Kl;cases decide (c > -2)with
 | false=>rw[cond_false]; exact Cc hN neg e b b_1 L 0 q hL hL2 hq hlow k
 | true=>
  rw[cond_true];cases decide (top < -1022)with
  | false=>rw[cond_false]; exact Cc hN neg e b b_1 L 1 q hL hL2 hq hlow k
  | true=>rw[cond_true]; exact Cc hN neg e b b_1 L 3 q hL hL2 hq hlow k
def upN (n d:Nat):Bool:=decide (2 ^ d<2*(n%2 ^ d))||(2 ^ d==2*(n%2 ^ d)&&n / 2 ^ d%2==1)
theorem Ar (s:Bool) {n d:Nat} (h:d<=n.log2+2):Toward.even.cut s n d=n / 2 ^ d+(upN n d).toNat:=by unfold Toward.cut upN;rw[Nat.min_eq_left h,Nat.one_shiftLeft]
theorem X9 {n d:Nat} (h:n.log2+2<=d) (h0:n ≠ 0):n / 2 ^ d=0/\n%2 ^ d=n/\upN n d=false:=by
 have h1:n<2 ^ (n.log2+1):=Nat.lt_log2_self;have h2:2 ^ (n.log2+2)<=2 ^ d:=Nat.pow_le_pow_right (by decide) h;have h3:2 ^ (n.log2+2)=2*2 ^ (n.log2+1):=by rw[Nat.pow_succ]; omega
 have h4:n / 2 ^ d=0:=Nat.div_eq_of_lt (by omega);have h5:n%2 ^ d=n:=Nat.mod_eq_of_lt (by omega);refine⟨h4,h5,?_⟩;unfold upN;rw[h5,decide_eq_false (by omega),Bool.false_or];have:(2 ^ d==2*n)=false:=by simp; omega
 rw[this]; rfl
theorem afm (s:Bool) {n:Nat} (h0:n ≠ 0) (d:Nat):Toward.even.cut s n d=n / 2 ^ d+(upN n d).toNat:=by
 by_cases h:d<=n.log2+2
 ·exact Ar s h
 ·have hfar:Toward.even.cut s n d=Toward.even.cut s n (n.log2+2):=by unfold Toward.cut;rw[Nat.min_eq_right (by omega),Nat.min_self]
  obtain⟨a1,a2,a3⟩:=X9 (n:=n) (d:=d) (by omega) h0;obtain⟨b1,b2,b3⟩:=X9 (n:=n) (d:=n.log2+2) (Nat.le_refl _) h0;rw[hfar,Ar s (Nat.le_refl _),a1,a3,b1,b3]
theorem ahF (m d:Nat) (h:1<=d):(decide ((if m%2 ^ d=0 then -2 else kA (m%2 ^ d) (2 ^ (d - 1)))>(0:Int))||(decide ((if m%2 ^ d=0 then -2 else kA (m%2 ^ d) (2 ^ (d - 1)))=(0:Int))&&decide (m / 2 ^ d%2=1)))=upN m d:=by
 have h2:2 ^ d=2*2 ^ (d - 1):=by
  have:d=d - 1+1:=by omega
  rw[this,Nat.pow_succ,Nat.add_sub_cancel]; omega
 have hp:0<2 ^ (d - 1):=Nat.two_pow_pos _;unfold upN;rw[h2];generalize 2 ^ (d - 1)=p at *;generalize m%(2*p)=r;generalize m / (2*p)=q;unfold kA;rw[Bool.eq_iff_iff];simp only[Bool.or_eq_true,Bool.and_eq_true,decide_eq_true_eq,beq_iff_eq];split
 ·omega
 ·split
  ·omega
  ·split <;> omega
theorem Ow {N:Nat} (hN:1000<=N) (neg:Bool) (e:Int) (m:Nat) (h0:m ≠ 0) (hm:m<9007199254740992) (he1 : -6500<=e) (he2:e<=6500) (k:Int->Int->Bool) :
  ∃ f,Lj N neg e false (ao m) k=k ((Ieee.double.nearest neg m e:Nat):Int) f:=by
 have hs:bv N (ao m):=aS hN (by omega);have hl1:=Nat.log2_self_le h0;have hl2:m<2 ^ (m.log2+1):=Nat.lt_log2_self;have hl3:m.log2<=52:=by have:=lO hm;rw[Q4 h0]at this;omega
 have hn:Ieee.double.nearest neg m e=Ieee.double.word neg (min ((max (e+m.log2 - 52) (-1074)+1074).toNat*4503599627370496+Toward.even.cut neg (m <<< (e - max (e+m.log2 - 52) (-1074)).toNat) (max (e+m.log2 - 52) (-1074) - e).toNat) 9218868437227405312):=by
  unfold Format.nearest;rw[if_neg h0,bU,cO,bf];have hf:((Ieee.double.fractionBits:Nat):Int)=52:=rfl;have e74:∀ z:Int,z - -1074=z+1074:=λz=>by omega
  simp only[hf,e74]
 have hb:(bl m:Int)=(m.log2:Int)+1:=by rw[Q4 h0]; omega
 have hi:imm true (e+(bl m:Int) - 1 - 53+1) (-1074)=max (e+m.log2 - 52) (-1074):=by
  unfold imm; rw[cond_true];by_cases h:(-1074:Int)>e+(bl m:Int) - 1 - 53+1
  ·rw[decide_eq_true h,cond_true]; omega
  ·rw[decide_eq_false h,cond_false]; omega
 have hL1 : -1074<=max (e+(m.log2:Int) - 52) (-1074):=by omega
 have hL2:max (e+(m.log2:Int) - 52) (-1074)<=7000:=by omega
 have hL3:max (e+(m.log2:Int) - 52) (-1074) = -1074\/max (e+(m.log2:Int) - 52) (-1074)=e+m.log2 - 52:=by omega
 unfold Lj zy;rw[hn,dB _ _ hs,al (aq (by omega) (by omega)),al (aq (by omega) (by omega)),al (aq (by omega) (by omega)),al (aq (by omega) (by omega)),abi _ _ _ hs];have hsg:sg false m=false:=rfl;rw[hsg,hi];generalize hLe:max (e+(m.log2:Int) - 52) (-1074)=L at *;by_cases hge:e>=L
 ·have e1:e - L=(((e - L).toNat:Nat):Int):=by omega
  have e2:(L - e).toNat=0:=by omega
  have hd:(e - L).toNat+m.log2<=52:=by omega
  rw[decide_eq_true hge,cond_true,al (aq (by omega) (by omega)),e2,m_];generalize hde:(e - L).toNat=d at *;have hq1:m*2 ^ d<9007199254740992:=by
   have h1:m*2 ^ d<2 ^ (m.log2+1)*2 ^ d:=Nat.mul_lt_mul_of_pos_right hl2 (Nat.two_pow_pos d);rw[<- Nat.pow_add]at h1;have h2:2 ^ (m.log2+1+d)<=2 ^ 53:=Nat.pow_le_pow_right (by decide) (by omega);have h3:(2:Nat) ^ 53=9007199254740992:=by decide
   omega
  have hq2:m*2 ^ d<4503599627370496->L = -1074:=by
   intro h;rcases hL3 with h3 | h3
   ·exact h3
   ·exfalso;have h4:d=52 - m.log2:=by omega
    have h5:2 ^ m.log2*2 ^ d<=m*2 ^ d:=Nat.mul_le_mul_right _ hl1;rw[<- Nat.pow_add,h4,show m.log2+(52 - m.log2)=52 by omega]at h5;have h6:(2:Nat) ^ 52=4503599627370496:=by decide
    rw[h4]at h;omega
  rw[e1,fe d (by omega),Ou d false m (B7 hN (by omega) (by omega)),f_,nq,Nat.shiftLeft_eq];unfold QC;rw[xC,decide_eq_false (by decide),decide_eq_false (by decide),Bool.false_and,Bool.false_or,cond_false];exact ahy hN neg e false (ao m) _ L (m*2 ^ d) hL1 (by omega) (by omega) hq2 k
 ·have e1:L - e=(((L - e).toNat:Nat):Int):=by omega
  have e2:(e - L).toNat=0:=by omega
  rw[decide_eq_false hge,cond_false,al (aq (by omega) (by omega)),e2,Nat.shiftLeft_zero,afm neg h0];have hd1:1<=(L - e).toNat:=by omega
  have hd2:(L - e).toNat<=6900:=by omega
  generalize hde:(L - e).toNat=d at *;rw[e1,OE hN m d (by omega) hd1 hd2];have hq0:m / 2 ^ d<9007199254740992:=by have:=Nat.div_le_self m (2 ^ d); omega
  have hq2:m / 2 ^ d<4503599627370496->L = -1074:=by
   intro h;rcases hL3 with h3 | h3
   ·exact h3
   ·exfalso; omega
  unfold QE;rw[xC,ahF m d hd1];cases hu:upN m d with
  | false=>
   rw[cond_false];exact ahA hN neg e false (ao m) _ L _ (m / 2 ^ d) hL1 (by omega) (by omega) hq2 k
  | true=>
   rw[cond_true,vk hN,Om false _ false 1 (aS hN (by omega)) (aS hN (by decide)) (aS hN (by omega)),f_,f_];have e3:((m / 2 ^ d:Nat):Int)+((1:Nat):Int)=((m / 2 ^ d+1:Nat):Int):=by omega
   rw[e3,nq];exact ahz hN neg e false (ao m) _ L _ (m / 2 ^ d+1) hL1 (by omega) (by omega) (λh=>hq2 (by omega)) k
theorem vM {N:Nat} (n:Nat) (hn:n<18446744073709551616) (b:Bool) (l:List Int) (hN:bv N (ao n)) (h4:4<N) (k:Bool->List Int->Bool):abM N n b l k=k false (ao n):=by unfold abM Zi;rw[uC n hn h4,jJ _ _ _ _ (aK _) hN,aC];rfl
theorem Q1 (n:Nat):av .and .u64 (n:Int) 2047=((n%2048:Nat):Int):=by have:=dI n 11 (by decide);simpa using this
theorem ace (n:Nat):av .and .u64 (n:Int) 1=((n%2:Nat):Int):=by have:=dI n 1 (by decide);simpa using this
theorem BD (b:Nat):Int.fdiv (b:Int) (2 ^ 52)=((b / 4503599627370496:Nat):Int):=by rw[show(2:Int) ^ 52=((4503599627370496:Nat):Int) by decide,k8]
theorem RO (b:Nat):Int.fdiv (b:Int) (2 ^ 63)=((b / 9223372036854775808:Nat):Int):=by rw[show(2:Int) ^ 63=((9223372036854775808:Nat):Int) by decide,k8]
theorem Ni (b:Nat):(((b / 9223372036854775808%2:Nat):Int)==1)=(b / 9223372036854775808%2==1):=by rw[Bool.eq_iff_iff,beq_iff_eq,beq_iff_eq]; omega
theorem Ui (n:Nat) (h:n<4503599627370496):av .or .u64 (n:Int) 4503599627370496=((4503599627370496+n:Nat):Int):=by have:=cD n 1 52 (by simpa using h) (by simp; omega);simpa using this
theorem TT {N:Nat} (hN:1000<=N) {b:Nat} (hb:W64 b) {s:Bool} {m:Nat} {i:Int} (h:Ieee.double.read b=.number s m i) (k0:Bool->Bool) (k1:Bool->Bool->List Int->Bool) (k2:Bool->Int->Bool->List Int->Bool) (k3:Bool->Bool->List Int->Bool) :
  (i = -1074/\A8 N b k0 k1 k2 k3=k3 s false (ao m))\/A8 N b k0 k1 k2 k3=k2 s i false (ao m):=by
 unfold W64 at hb;unfold A8 Cv;rw[BD,RO,CP,Q1,ace,Ni];obtain⟨rfl,hlt,h⟩:=cE h;have hfr:b%4503599627370496<4503599627370496:=Nat.mod_lt _ (by decide);rw[al (aq (by omega) (by omega)),iA _ (by omega) _ (aS hN (by omega)) (by omega)];have e1:(((b / 4503599627370496%2048:Nat):Int)==2047)=false:=by rw[beq_eq_false_iff_ne]; omega
 rw[e1,cond_false];rcases h with⟨h1,rfl,rfl⟩ | ⟨h1,rfl,rfl⟩
 ·refine .inl ⟨rfl,?_⟩;rw[decide_eq_false (by omega),cond_false];have:b%4503599627370496=b%9223372036854775808:=by omega
  rw[this]
 ·refine .inr ?_;rw[decide_eq_true (by omega),cond_true,Ui _ hfr,vM _ (by omega) _ _ (aS hN (by omega)) (by omega),al (aq (by omega) (by omega)),al (aq (by omega) (by omega)),al (aq (by omega) (by omega)),al (aq (by omega) (by omega))];have e2:(((b / 4503599627370496%2048:Nat):Int) - 1 + -1022 - 53+1) = -1074+((b%9223372036854775808 / 4503599627370496 - 1:Nat):Int):=by omega
  have e3:4503599627370496+b%4503599627370496=4503599627370496+b%9223372036854775808%4503599627370496:=by omega
  rw[e2,e3]
theorem xE {N:Nat} (hN:1000<=N) (s:Bool) (e:Int) (m:Nat) (hm:m<9007199254740992) (he1 : -6500<=e) (he2:e<=6500) (k:Int->Int->Bool) :
  ∃ f,DR N 0 s e false (ao m) k=k ((Ieee.double.nearest s m e:Nat):Int) f:=by
 unfold DR Cq;have h1:((0:Int)==2)=false:=by decide
 have h2:((0:Int)==1)=false:=by decide
 rw[h1,h2,cond_false,cond_false];unfold UD J9;have h3:(((0:Int)==0)==true)=true:=by decide
 rw[h3,cond_true,im];by_cases h0:m=0
 ·subst h0;rw[if_pos rfl,show((0:Int)==0)=true by decide];dsimp only;rw[cond_true,FF,cv];exact⟨_,rfl⟩
 ·rw[if_neg h0];simp only[Bool.false_eq_true,if_false];rw[show((1:Int)==0)=false by decide,cond_false];exact Ow hN s e m h0 hm he1 he2 _
theorem Q8 {k:Int} (h1 : -5000<=k) (h2:k<=5000):imm true (-5000) (imm false k 5000)=k:=by
 unfold imm;rw[cond_false,cond_true];rcases Int.lt_or_le 5000 k with h | h
 ·omega
 ·by_cases h5:(5000:Int)<k
  ·omega
  ·rw[decide_eq_false h5,cond_false];by_cases h6:k > -5000
   ·rw[decide_eq_true h6,cond_true]
   ·rw[decide_eq_false h6,cond_false]; omega
theorem Oz {N:Nat} (hN:1000<=N) {b:Nat} (hb:W64 b) {s:Bool} {m:Nat} {i:Int} (h:Ieee.double.read b=.number s m i) {k:Int} (hk1 : -5000<=k) (hk2:k<=5000) (κ:Int->Int->Int->Bool) :
  ∃ f g,A7 N b k κ=κ ((Ieee.double.nearest s m (i+k):Nat):Int) f g:=by
 have hK:∀ x,Le N x=x:=λ_=>rfl
 have hD:∀ x,K1 N x=x:=λ_=>rfl
 have hp:=dn h;have hg:=bg h;unfold A7 wv;rw[hK,hD,Q8 hk1 hk2];rcases TT hN hb h _ _ _ _ with⟨rfl,e⟩ | e
 ·rw[e,al (aq (by omega) (by omega))];unfold wB;rw[hD];obtain⟨f,hf⟩:=xE hN s (-1074+k) m hp.2 (by omega) (by omega) (λa c=>κ a c 0);exact⟨f,0,hf⟩
 ·rw[e,al (aq (by omega) (by omega))];unfold wB;rw[hD];obtain⟨f,hf⟩:=xE hN s (i+k) m hp.2 (by omega) (by omega) (λa c=>κ a c 0);exact⟨f,0,hf⟩
theorem j8 (s:Bool) (m:Nat) (i:Int):∃ r,Ieee.double.nearest s m i=Ieee.double.word s r/\r<=9218868437227405312:=by
 unfold Format.nearest;split
 ·exact⟨0,rfl,by omega⟩
 ·rw[bf]; exact⟨_,rfl,Nat.min_le_right _ _⟩
theorem mq (s:Bool) {r:Nat} (h:r<=9218868437227405312):Ieee.double.read (Ieee.double.word s r)=.infinity s \/ ∃ m i,Ieee.double.read (Ieee.double.word s r)=.number s m i:=by
 have hw:Ieee.double.word s r%9223372036854775808=r:=by unfold Format.word; rw[aI]; cases s <;> simp <;> omega
 have hs:(Ieee.double.word s r / 9223372036854775808%2==1)=s:=by
  unfold Format.word; rw[aI];cases s
  ·simp; omega
  ·have:(9223372036854775808+r) / 9223372036854775808=1:=by omega
   simp[this]
 unfold Format.read;simp only[aI,cO,bf,hw,hs];split
 ·exact .inr ⟨_,_,rfl⟩
 ·split
  ·exact .inr ⟨_,_,rfl⟩
  ·split
   ·exact .inl rfl
   ·omega
theorem vo (s:Bool) (m:Nat) (i:Int):W64 (Ieee.double.nearest s m i):=by obtain⟨r,h,hr⟩:=j8 s m i;rw[h]; exact dY s (by omega)
theorem yF (s:Bool) (m:Nat) (i:Int):cP (Ieee.double.nearest s m i)=some (Ieee.double.nearest s m i):=by
 obtain⟨r,h,hr⟩:=j8 s m i;have:isNaN (Ieee.double.nearest s m i)=false:=by unfold isNaN;rw[h];rcases mq s hr with e | ⟨m,i,e⟩ <;> rw[e] <;> rfl
 unfold cP;rw[this]; rfl
def aF (x:Fl) (k:Int):Fl:=match x with
 | some b=>match Ieee.double.read b with
  | .number s m i=>some (Ieee.double.nearest s m (i+k))
  | _=>some b
 | none=>none
theorem e_ {b:Nat} {s:Bool} {m:Nat} {i:Int} (h:Ieee.double.read b=.number s m i) (k:Int):aF (some b) k=some (Ieee.double.nearest s m (i+k)):=by unfold aF; simp only[h]
theorem jI {N:Nat} (hN:1000<=N) {x:Fl} (hx:ar x=true) (hw:FW x) {k:Int} (hk1 : -5000<=k) (hk2:k<=5000) (κ:Fl->Bool):yX N x k κ=κ (aF x k):=by
 obtain⟨b,s,m,i,rfl,h⟩:=aG hx;have hb:=hw b rfl;unfold yX Qs;obtain⟨f,g,hf⟩:=Oz hN hb h hk1 hk2 (λ(amU:Int) (am3:Int) (ane:Int)=>pj N amU (λ(xr:Fl)=>κ xr));have e:kr N (some b)=λk=>k (b:Int):=rfl
 rw[e];refine hf.trans ?_;rw[e_ h];show κ (cP (Int.toNat ((Ieee.double.nearest s m (i+k):Nat):Int)))=_;rw[Int.toNat_natCast,yF]
theorem acj (a b:Nat):flt (some a) (some b)=((Ieee.double.read a).order (Ieee.double.read b)==some .lt):=rfl
theorem ajg (a b:Nat):feq (some a) (some b)=((Ieee.double.read a).order (Ieee.double.read b)==some .eq):=rfl
theorem ajh (a b:Nat):fgt (some a) (some b)=((Ieee.double.read a).order (Ieee.double.read b)==some .gt):=rfl
theorem BE (a b:Nat):af (some a) (some b)=((Ieee.double.read a).product (Ieee.double.read b)).map Ieee.double.write:=rfl
theorem jT {b:Nat} (hb:W64 b) {s:Bool} {m:Nat} {i:Int} (h:Ieee.double.read b=.number s m i):∃ c,cW (some b)=some c/\W64 c/\Ieee.double.read c=.number false m i:=by
 have e:Ieee.double.read (b%9223372036854775808)=.number false m i:=by
  obtain⟨hs,hlt,h⟩:=cE h;unfold Format.read;simp only[aI,cO,bf,bU];have e1:b%9223372036854775808%9223372036854775808=b%9223372036854775808:=by omega
  have e2:(b%9223372036854775808 / 9223372036854775808%2==1)=false:=by rw[beq_eq_false_iff_ne]; omega
  rw[e1,e2];rcases h with⟨h1,rfl,rfl⟩ | ⟨h1,rfl,rfl⟩
  ·rw[if_pos h1]
  ·rw[if_neg (by omega),if_pos hlt]
 have hn:isNaN (b%9223372036854775808)=false:=by unfold isNaN; rw[e]; rfl
 refine⟨b%9223372036854775808,?_,by unfold W64 at *; omega,e⟩;show cP _=_;unfold cP; rw[hn]; rfl
theorem Ge:Ieee.double.read 4841369599423283200=.number false 4503599627370496 0:=by decide
theorem Gd:Ieee.double.read 4503599627370496=.number false 4503599627370496 (-1074):=by decide
theorem DL:Ieee.double.read 4368491638549381120=.number false 4503599627370496 (-105):=by decide
theorem AA {c:Nat} {m:Nat} {i:Int} (h:Ieee.double.read c=.number false m i):flt (some c) (some 4503599627370496)=decide (m<4503599627370496/\i = -1074):=by
 have hg:=bg h;have hr:=cE h;rw[acj,h,Gd];simp only[Datum.order];have hmin:min i (-1074) = -1074:=by omega
 have e0:(-1074 - -1074:Int).toNat=0:=by decide
 rw[hmin,e0];have s1:signed false m (i - -1074).toNat=((m <<< (i - -1074).toNat:Nat):Int):=rfl;have s2:signed false 4503599627370496 0=((4503599627370496:Nat):Int):=rfl;rw[s1,s2,Nat.shiftLeft_eq];have hp:0<2 ^ (i - -1074).toNat:=Nat.two_pow_pos _;have hle:m<=m*2 ^ (i - -1074).toNat:=Nat.le_mul_of_pos_right m hp;by_cases hc:m<4503599627370496/\i = -1074
 ·rw[decide_eq_true hc];obtain⟨h1,rfl⟩:=hc;rw[e0,Nat.pow_zero,Nat.mul_one];have:compare (m:Int) ((4503599627370496:Nat):Int)=.lt:=Int.compare_eq_lt.2 (by omega);rw[this]; rfl
 ·rw[decide_eq_false hc];have hm:4503599627370496<=m:=by
   rcases hr.2.2 with⟨h1,rfl,rfl⟩ | ⟨h1,rfl,rfl⟩
   ·omega
   ·omega
  generalize m*2 ^ (i - -1074).toNat=q at hle;have:compare (q:Int) ((4503599627370496:Nat):Int) ≠ .lt:=λe=>by have:=Int.compare_eq_lt.1 e; omega
  cases e:compare (q:Int) ((4503599627370496:Nat):Int)with
  | lt=>exact absurd e this
  | eq=>rfl
  | gt=>rfl
theorem pe (N:Nat) {b:Nat} (hb:W64 b) {s:Bool} {m:Nat} {i:Int} (h:Ieee.double.read b=.number s m i) (h0:m ≠ 0) :
  ∃ b' M P adj,(∀ κ:Fl->Int->Bool,O8 N (some b) κ=κ (some b') adj)/\W64 b'/\Ieee.double.read b'=.number s M P/\4503599627370496<=M/\M<9007199254740992 /\ -1074<=P/\P<=971 /\ -52<=adj/\(adj<=0/\P+adj=i+m.log2 - 52) /\ ∀ k,Ieee.double.nearest s M (P+adj+k)=Ieee.double.nearest s m (i+k):=by
 obtain⟨c,hc,hcw,hcr⟩:=jT hb h;have hp:=dn h;have hg:=bg h;have hr:=cE h;by_cases hd:m<4503599627370496/\i = -1074
 ·obtain⟨h1,rfl⟩:=hd;have hl:m.log2<52:=(Nat.log2_lt h0).2 (by simpa using h1);obtain⟨hM1,hM2⟩:=BP h0 hp.2;have hmul:af (some b) (some 4841369599423283200)=some (Ieee.double.nearest s (m*4503599627370496) (-1074)):=by rw[BE,h,Ge];have e:(Datum.number s m (-1074)).product (.number false 4503599627370496 0)=some (.number (s ^^ false) (m*4503599627370496) (-1074+0)):=rfl;rw[e,Option.map_some,Bool.xor_false,Int.add_zero,di]
  have hn:Ieee.double.nearest s (m*4503599627370496) (-1074)=Ieee.double.nearest s (m <<< (52 - m.log2)) (-1074+m.log2):=by
   have:=eg s (m <<< (52 - m.log2)) (-1074+m.log2) m.log2;rw[<- Nat.shiftLeft_add,show 52 - m.log2+m.log2=52 by omega]at this;have e1:m*4503599627370496=m <<< 52:=by
    have:(2:Nat) ^ 52=4503599627370496:=by decide
    rw[Nat.shiftLeft_eq,this]
   have e2:(-1074+(m.log2:Int)) - (m.log2:Int) = -1074:=by omega
   rw[e2]at this;rw[e1,this]
  have hw:Ieee.double.nearest s (m <<< (52 - m.log2)) (-1074+m.log2)=Ieee.double.word s ((-1074+(m.log2:Int)+1075).toNat*4503599627370496+(m <<< (52 - m.log2) - 4503599627370496)):=
   ff (dY s (by omega)) (dA s _ _ ⟨hM1,hM2⟩ (by omega))
  refine⟨Ieee.double.word s ((-1074+(m.log2:Int)+1075).toNat*4503599627370496+(m <<< (52 - m.log2) - 4503599627370496)),m <<< (52 - m.log2),-1074+m.log2,-52,λκ=>?_,dY s (by omega),dA s _ _ ⟨hM1,hM2⟩ (by omega),hM1,hM2,by omega,by omega,by omega,⟨by omega,by omega⟩,λk=>?_⟩
  ·unfold O8 Qq;show cond (flt (cW (some b)) (some 4503599627370496)) _ _=_;rw[hc,AA hcr,decide_eq_true ⟨h1,rfl⟩,cond_true,hmul,hn,hw]
  ·have e:(-1074+(m.log2:Int) + -52+k) = -1074+k - ((52 - m.log2:Nat):Int):=by omega
   rw[e,jt]
 ·have hm:4503599627370496<=m:=by
   rcases hr.2.2 with⟨h1,rfl,rfl⟩ | ⟨h1,rfl,rfl⟩
   ·omega
   ·omega
  refine⟨b,m,i,0,λκ=>?_,hb,h,hm,hp.2,hg,hp.1,by omega,⟨by omega,by rw[iK ⟨hm,hp.2⟩]; omega⟩,λk=>by rw[Int.add_zero]⟩;unfold O8 Qq;show cond (flt (cW (some b)) (some 4503599627370496)) _ _=_;rw[hc,AA hcr,decide_eq_false hd,cond_false]
theorem ni {b:Nat} {s:Bool} {m:Nat} {i:Int} (h:Ieee.double.read b=.number s m i):feq (some b) (some 0)=decide (m=0):=by
 rw[ajg,h,jL];simp only[Datum.order,bB];by_cases h0:m=0
 ·subst h0; rw[bB]; rfl
 ·rw[decide_eq_false h0];have hp:m <<< (i - min i (-1074)).toNat ≠ 0:=by rw[Nat.shiftLeft_eq];exact Nat.mul_ne_zero h0 (Nat.ne_of_gt (Nat.two_pow_pos _))
  have hne:signed s m (i - min i (-1074)).toNat ≠ 0:=by unfold signed;generalize m <<< (i - min i (-1074)).toNat=q at hp;cases s <;> simp <;> omega
  cases e:compare (signed s m (i - min i (-1074)).toNat) 0 with
  | lt=>rfl
  | gt=>rfl
  | eq=>exact absurd (Int.compare_eq_eq.1 e) hne
theorem AF (N:Nat) (x:Fl) (k:Bool->Bool):Lk N x k=k (!feq x x):=rfl
theorem pc (N:Nat) {x:Fl} (hx:ar x=true) (hw:FW x) (k:Bool->Bool):A6 N x 0 k=k false:=by
 obtain⟨b,s,m,i,rfl,h⟩:=aG hx;obtain⟨c,hc,hcw,hcr⟩:=jT (hw b rfl) h;have hp:=dn hcr;have hg:=bg hcr;unfold A6 Cs;show k (fgt (cW (some b)) (some 9218868437227405311))=_;rw[hc];congr 1;have hr:Ieee.double.read 9218868437227405311=.number false 9007199254740991 971:=by decide
 rw[ajh,hcr,hr];simp only[Datum.order];have hmin:min i 971=i:=by omega
 have e0:(i - i).toNat=0:=by omega
 rw[hmin,e0];have s1:signed false m 0=((m:Nat):Int):=rfl;have s2:signed false 9007199254740991 (971 - i).toNat=((9007199254740991 <<< (971 - i).toNat:Nat):Int):=rfl;rw[s1,s2,Nat.shiftLeft_eq];have hpw:0<2 ^ (971 - i).toNat:=Nat.two_pow_pos _;have hle:9007199254740991<=9007199254740991*2 ^ (971 - i).toNat:=Nat.le_mul_of_pos_right _ hpw;generalize 9007199254740991*2 ^ (971 - i).toNat=q at hle;have:compare (m:Int) (q:Int) ≠ .gt:=λe=>by have:=Int.compare_eq_gt.1 e; omega
 cases e:compare (m:Int) (q:Int)with
 | gt=>exact absurd e this
 | eq=>rfl
 | lt=>rfl
theorem aje {b:Nat} (hb:W64 b) {s:Bool} {M:Nat} {P:Int} (h:Ieee.double.read b=.number s M P) (hM:4503599627370496<=M):((b / 4503599627370496%2048:Nat):Int)=P+1075:=by
 obtain⟨-,hlt,h⟩:=cE h;rcases h with⟨h1,rfl,rfl⟩ | ⟨h1,rfl,rfl⟩
 ·omega
 ·omega
theorem oh (N:Nat) {x:Fl} (hx:ar x=true) (hw:FW x) (h0:feq x (some 0)=false):∃ fr e,(∀ κ:Fl->Int->Bool,kb N x κ=κ fr e) /\ -1200<=e/\e<=1200 /\ ∀ b s m i,x=some b->Ieee.double.read b=.number s m i->e=i+m.log2+1:=by
 obtain⟨b,s,m,i,rfl,h⟩:=aG hx;have hb:=hw b rfl;have hm:m ≠ 0:=by rw[ni h]at h0;exact of_decide_eq_false h0
 obtain⟨b',M,P,adj,h1,h2,h3,h4,h5,h6,h7,h8,h9,h10⟩:=pe N hb h hm;have he:=aje h2 h3 h4;refine⟨cP (Int.toNat (av .or .u64 (av .andNot .u64 (b':Int) 9218868437227405312) 4602678819172646912)),adj+(P+1075 - 1023+1),λκ=>?_,by omega,by omega,λb2 s2 m2 i2 hx2 hr2=>by cases hx2; rw[h]at hr2; cases hr2; omega⟩
 ·unfold kb JH UH Kf;rw[h0,cond_false,pc N hx hw];dsimp only;rw[show((false:Bool)==false)=true from rfl,cond_true,AF,Dc hx,Bool.not_true,cond_false,h1];have e:kr N (some b')=λk=>k (b':Int):=rfl
  rw[e];dsimp only;rw[BD,Q1,he,al (aq (by omega) (by omega)),al (aq (by omega) (by omega)),al (aq (by omega) (by omega)),al (aq (by omega) (by omega))];rfl
theorem Zs (n:Nat) (h:n<4096):av .and .i64 (n:Int) 2047=((n%2048:Nat):Int):=by
 unfold av jV;simp only[Option.getD_some];have h2047:(2047:Int)=((2 ^ 11 - 1:Nat):Int):=by simp
 rw[h2047];have e:((BitVec.ofInt (IntKind.bits .i64) (n:Int)) &&& (BitVec.ofInt (IntKind.bits .i64) ((2 ^ 11 - 1:Nat):Int))).toNat=n%2048:=by show((BitVec.ofInt 64 (n:Int)) &&& (BitVec.ofInt 64 ((2 ^ 11 - 1:Nat):Int))).toNat=n%2 ^ 11;rw[BitVec.toNat_and,BitVec.ofInt_natCast,BitVec.ofInt_natCast,BitVec.toNat_ofNat,BitVec.toNat_ofNat,Nat.mod_eq_of_lt (a:=2 ^ 11 - 1) (by decide),Nat.and_two_pow_sub_one_eq_mod,Nat.mod_mod_of_dvd];exact Nat.pow_dvd_pow 2 (by decide)
 rw[e];have hw:∀ z:Nat,z<4096->IntKind.wrap .i64 (z:Int)=z:=λz hz=>by
  unfold IntKind.wrap;have h1:IntKind.signed .i64=true:=rfl;have h2:IntKind.bits .i64=64:=rfl;have h3:(2:Int) ^ 64=18446744073709551616:=by decide
  have h4:(2:Int) ^ (64 - 1)=9223372036854775808:=by decide
  simp only[h1,h2,h3,h4,Bool.true_and,decide_eq_true_eq];split <;> omega
 rw[hw _ (by omega)]
theorem RU {b:Nat} {s:Bool} {m:Nat} {i:Int} (h:Ieee.double.read b=.number s m i) (h0:m ≠ 0):flt (some b) (some 0)=s:=by
 rw[acj,h,jL];simp only[Datum.order,bB];have hp:m <<< (i - min i (-1074)).toNat ≠ 0:=by rw[Nat.shiftLeft_eq];exact Nat.mul_ne_zero h0 (Nat.ne_of_gt (Nat.two_pow_pos _))
 cases s with
 | true=>
  have:signed true m (i - min i (-1074)).toNat<0:=by show -((m <<< (i - min i (-1074)).toNat:Nat):Int)<0;generalize m <<< (i - min i (-1074)).toNat=q at hp;omega
  rw[Int.compare_eq_lt.2 this]; rfl
 | false=>
  have:0<signed false m (i - min i (-1074)).toNat:=by show 0<((m <<< (i - min i (-1074)).toNat:Nat):Int);generalize m <<< (i - min i (-1074)).toNat=q at hp;omega
  rw[Int.compare_eq_gt.2 this]; rfl
theorem DD {b:Nat} (hb:W64 b) {s:Bool} {m:Nat} {i:Int} (h:Ieee.double.read b=.number s m i):b / 9223372036854775808*9223372036854775808=Ieee.double.word s 0:=by
 obtain⟨rfl,-,-⟩:=cE h;unfold Format.word; rw[aI];unfold W64 at hb;by_cases h1:b / 9223372036854775808%2=1
 ·rw[h1]; simp; omega
 ·rw[show(b / 9223372036854775808%2==1)=false by rw[beq_eq_false_iff_ne]; exact h1]; simp; omega
theorem yH (N:Nat) {b:Nat} (hb:W64 b) {s:Bool} {m:Nat} {i:Int} (h:Ieee.double.read b=.number s m i) (κ:Fl->Bool):Lc N (some 0) (some b) κ=κ (some (Ieee.double.word s 0)):=by
 unfold Lc JR;have e0:kr N (some 0)=λk=>k ((0:Nat):Int):=rfl
 have e1:kr N (some b)=λk=>k (b:Int):=rfl
 rw[e0,e1];dsimp only;have hand:av .and .u64 (b:Int) 9223372036854775808=((b / 9223372036854775808*9223372036854775808:Nat):Int):=by
  unfold av jV;simp only[Option.getD_some];unfold W64 at hb;have e:((BitVec.ofInt (IntKind.bits .u64) (b:Int)) &&& (BitVec.ofInt (IntKind.bits .u64) (9223372036854775808:Int))).toNat=b / 9223372036854775808*9223372036854775808:=by
   show((BitVec.ofInt 64 (b:Int)) &&& (BitVec.ofInt 64 ((2 ^ 63:Nat):Int))).toNat=_;have h64:(2:Nat) ^ 64=18446744073709551616:=by decide
   have h63:(2:Nat) ^ 63=9223372036854775808:=by decide
   rw[BitVec.toNat_and,BitVec.ofInt_natCast,BitVec.ofInt_natCast,BitVec.toNat_ofNat,BitVec.toNat_ofNat,Nat.mod_eq_of_lt (by omega),Nat.mod_eq_of_lt (a:=2 ^ 63) (by decide)];have hq:b / 9223372036854775808=0\/b / 9223372036854775808=1:=by omega
   have ht:=Nat.testBit_eq_decide_div_mod_eq (x:=b) (i:=63);rw[h63]at ht;rcases hq with hq | hq
   ·rw[hq,Nat.zero_mul];rw[hq]at ht;apply Nat.eq_of_testBit_eq;intro j;rw[Nat.testBit_and,Nat.testBit_two_pow,Nat.zero_testBit];by_cases hj:63=j
    ·subst hj; rw[ht]; rfl
    ·rw[decide_eq_false hj,Bool.and_false]
   ·rw[hq,Nat.one_mul,<- h63];rw[hq]at ht;apply Nat.eq_of_testBit_eq;intro j;rw[Nat.testBit_and,Nat.testBit_two_pow];by_cases hj:63=j
    ·subst hj; rw[ht]; rfl
    ·rw[decide_eq_false hj,Bool.and_false]
  rw[e,fe _ (by omega)]
 have h00:av .andNot .u64 ((0:Nat):Int) 9223372036854775808=0:=by rw[h_]; rfl
 rw[hand,h00,DD hb h,or0 _ (dY s (by decide))];show κ (cP (Int.toNat ((Ieee.double.word s 0:Nat):Int)))=_;rw[Int.toNat_natCast];congr 1;cases s <;> decide
theorem Dp (N:Nat) (κ:Fl->Bool):ov N (-1) κ=κ (some 18442240474082181120):=by unfold ov lh;rw[decide_eq_false (by decide),cond_false];show κ (cP 18442240474082181120)=_;congr 1
theorem Dq (N:Nat) (κ:Fl->Bool):ov N 1 κ=κ (some 9218868437227405312):=by unfold ov lh;rw[decide_eq_true (by decide),cond_true];show κ (cP 9218868437227405312)=_;congr 1
theorem X_ (s:Bool):Ieee.double.word s 9218868437227405312=cond s 18442240474082181120 9218868437227405312:=by cases s <;> decide
theorem abr (a b:Nat) (ha:a<9223372036854775808) (hb:b<9223372036854775808):av .or .u64 (av .or .u64 (a:Int) 9223372036854775808) (b:Int)=av .or .u64 (av .or .u64 (a:Int) (b:Int)) 9223372036854775808:=by
 have hor:∀ u v:Nat,u<18446744073709551616->v<18446744073709551616->av .or .u64 (u:Int) (v:Int)=((u ||| v:Nat):Int):=λu v hu hv=>by
  unfold av jV;simp only[Option.getD_some];have h64:(2:Nat) ^ 64=18446744073709551616:=by decide
  have e:((BitVec.ofInt (IntKind.bits .u64) (u:Int)) ||| (BitVec.ofInt (IntKind.bits .u64) (v:Int))).toNat=u ||| v:=by show((BitVec.ofInt 64 (u:Int)) ||| (BitVec.ofInt 64 (v:Int))).toNat=_;rw[BitVec.toNat_or,BitVec.ofInt_natCast,BitVec.ofInt_natCast,BitVec.toNat_ofNat,BitVec.toNat_ofNat,Nat.mod_eq_of_lt (by omega),Nat.mod_eq_of_lt (by omega)]
  rw[e,fe _ (by have:=Nat.or_lt_two_pow (n:=64) (x:=u) (y:=v) (by omega) (by omega);omega)]
 have h64:(2:Nat) ^ 64=18446744073709551616:=by decide
 have o1:=Nat.or_lt_two_pow (n:=64) (x:=a) (y:=9223372036854775808) (by omega) (by omega);have o2:=Nat.or_lt_two_pow (n:=64) (x:=a) (y:=b) (by omega) (by omega);have c:(9223372036854775808:Int)=((9223372036854775808:Nat):Int):=rfl;rw[c,hor a _ (by omega) (by decide),hor _ b (by omega) (by omega),hor a b (by omega) (by omega),hor _ _ (by omega) (by decide),Nat.or_assoc,Nat.or_assoc,Nat.or_comm b]
theorem KK {b:Nat} (hb:W64 b) {s:Bool} {M:Nat} {P:Int} (h:Ieee.double.read b=.number s M P) (hM:4503599627370496<=M) {E:Int} (h1:0<E) (h2:E<2047) :
  av .or .u64 (av .andNot .u64 (b:Int) 9218868437227405312) (IntKind.wrap .u64 ((IntKind.wrap .u64 E)*2 ^ 52))=((Ieee.double.word s (E.toNat*4503599627370496+(M - 4503599627370496)):Nat):Int):=by
 have hs:=DD hb h;obtain⟨hsg,hlt,hr⟩:=cE h;have hf:M - 4503599627370496=b%4503599627370496:=by
  rcases hr with⟨h1,rfl,rfl⟩ | ⟨h1,rfl,rfl⟩
  ·omega
  ·omega
 obtain⟨e,rfl⟩:∃ e:Nat,E=e:=⟨E.toNat,by omega⟩
 have e1:IntKind.wrap .u64 (IntKind.wrap .u64 (e:Int)*2 ^ 52)=((2 ^ 52*e:Nat):Int):=by
  rw[fe e (by omega),bI];have h3:(2:Int) ^ 52=4503599627370496:=by decide
  have h4:(2:Nat) ^ 52=4503599627370496:=by decide
  rw[h3,h4]; omega
 rw[e1,EU hb,hs,hf,Int.toNat_natCast];have p52:(2:Nat) ^ 52=4503599627370496:=by decide
 cases s with
 | false=>
  have w0:Ieee.double.word false 0=0:=by decide
  rw[w0,Nat.zero_add,cD _ e 52 (by rw[p52]; omega) (by rw[p52]; omega),p52];unfold Format.word;simp only[Bool.false_eq_true,if_false];rw[Nat.mul_comm 4503599627370496 e]
 | true=>
  have w0:Ieee.double.word true 0=9223372036854775808:=by decide
  rw[w0];have hsplit:av .or .u64 ((9223372036854775808+b%4503599627370496:Nat):Int) ((2 ^ 52*e:Nat):Int)=((9223372036854775808+(2 ^ 52*e+b%4503599627370496):Nat):Int):=by rw[<- Uj (b%4503599627370496) (by omega),<- Uj (2 ^ 52*e+b%4503599627370496) (by rw[p52]; omega),<- cD (b%4503599627370496) e 52 (by rw[p52]; omega) (by rw[p52]; omega)];exact abr _ _ (by omega) (by rw[p52]; omega)
  rw[hsplit];unfold Format.word;rw[aI];simp only[if_true];rw[p52,Nat.mul_comm 4503599627370496 e]
theorem ik (N:Nat) {x:Fl} (hx:ar x=true) (hw:FW x) {k:Int} (hk1 : -5000<=k) (hk2:k<=5000) (κ:Fl->Bool):pZ N x k κ=κ (aF x k):=by
 obtain⟨b,s,m,i,rfl,h⟩:=aG hx;have hb:=hw b rfl;rw[e_ h];unfold pZ Qp Lx wA;rw[ni h];by_cases h0:m=0
 ·subst h0;rw[decide_eq_true rfl,cond_true,cv,AQ hb h]
 ·rw[decide_eq_false h0,cond_false,pc N hx hw];dsimp only;rw[show((false:Bool)==false)=true from rfl,cond_true,AF,Dc hx,Bool.not_true,cond_false];obtain⟨b',M,P,adj,h1,h2,h3,h4,h5,h6,h7,h8,h9,h10⟩:=pe N hb h h0;have he:=aje h2 h3 h4;have hM0:M ≠ 0:=by omega
  have hP:(P+adj+k)=P+adj+k:=rfl;rw[h1,<- h10 k];have e0:kr N (some b')=λk=>k (b':Int):=rfl
  rw[e0];dsimp only;have hb':b'<18446744073709551616:=h2;rw[al (aq (by omega) (by omega)),BD,al (aq (by omega) (by omega)),Zs _ (by omega),he,al (aq (by omega) (by omega)),al (aq (by omega) (by omega))];have e1:k+adj+(P+1075 - 1023)=P+adj+k+52:=by omega
  rw[e1];generalize hQ:P+adj+k=Q;by_cases c1:Q+52 < -1075
  ·rw[decide_eq_true c1,cond_true,yH N h2 h3,BX s ⟨h4,h5⟩ (by omega)]
  ·rw[decide_eq_false c1,cond_false];by_cases c2:Q+52>1023
   ·rw[decide_eq_true c2,cond_true,RU h3 hM0,BW s ⟨h4,h5⟩ (by omega),X_];cases s
    ·rw[cond_false,Dq]; rfl
    ·rw[cond_true,Dp]; rfl
   ·rw[decide_eq_false c2,cond_false];have hjump:∀(E:Int) (c:Nat) ,0<E+1023->E+1023<2047->aw .i64 (E+1023)=true:=λE c a1 a2=>aq (by omega) (by omega)
    by_cases c3:Q+52 < -1022
    ·rw[decide_eq_true c3,cond_true,al (aq (by omega) (by omega))];unfold CF;rw[al (aq (by omega) (by omega)),KK h2 h3 h4 (by omega) (by omega)];show κ (af _ (cP (Int.toNat ((_:Nat):Int))))=_;rw[Int.toNat_natCast];have hE:(Q+52+53+1023)=(Q+53)+1075:=by omega
     rw[hE];have hrd:=dA s M (Q+53) ⟨h4,h5⟩ (by omega);have hcn:cP (Ieee.double.word s ((Q+53+1075).toNat*4503599627370496+(M - 4503599627370496)))=some (Ieee.double.word s ((Q+53+1075).toNat*4503599627370496+(M - 4503599627370496))):=by
      have hn:isNaN (Ieee.double.word s ((Q+53+1075).toNat*4503599627370496+(M - 4503599627370496)))=false:=by unfold isNaN; rw[hrd]; rfl
      unfold cP; rw[hn]; rfl
     rw[hcn,BE,DL,hrd];have e:(Datum.number false 4503599627370496 (-105)).product (.number s M (Q+53))=some (.number (false ^^ s) (4503599627370496*M) (-105+(Q+53))):=rfl;rw[e,Option.map_some,Bool.false_xor,di];have e5:4503599627370496*M=M <<< 52:=by
      have:(2:Nat) ^ 52=4503599627370496:=by decide
      rw[Nat.shiftLeft_eq,this,Nat.mul_comm]
     have e6:(-105+(Q+53))=Q - ((52:Nat):Int):=by omega
     rw[e5,e6,eg]
    ·rw[decide_eq_false c3,cond_false];unfold CF;rw[al (aq (by omega) (by omega)),KK h2 h3 h4 (by omega) (by omega)];show κ (af _ (cP (Int.toNat ((_:Nat):Int))))=_;rw[Int.toNat_natCast];have hE:(Q+52+1023)=Q+1075:=by omega
     rw[hE];have hrd:=dA s M Q ⟨h4,h5⟩ (by omega);have hW:W64 (Ieee.double.word s ((Q+1075).toNat*4503599627370496+(M - 4503599627370496))):=dY s (by omega);have hcn:cP (Ieee.double.word s ((Q+1075).toNat*4503599627370496+(M - 4503599627370496)))=some (Ieee.double.word s ((Q+1075).toNat*4503599627370496+(M - 4503599627370496))):=by
      have hn:isNaN (Ieee.double.word s ((Q+1075).toNat*4503599627370496+(M - 4503599627370496)))=false:=by unfold isNaN; rw[hrd]; rfl
      unfold cP; rw[hn]; rfl
     rw[hcn,ff hW hrd,Uh (λc hc=>by cases hc; exact hW) (fS hrd)]
theorem Pq (d:Datum):W64 (Ieee.double.write d):=by
 cases d with
 | number s m i=>exact vo s m i
 | infinity s=>
  have:Ieee.double.write (.infinity s)=Ieee.double.word s 9218868437227405312:=by rw[<- bf]; rfl
  rw[this]; exact dY s (by decide)
 | nan s f=>
  have:Ieee.double.write (.nan s f)=Ieee.double.word s (9218868437227405312+f%4503599627370496):=by rw[<- bf,<- cO]; rfl
  rw[this]; exact dY s (by omega)
theorem BU {o:Option Datum}:FW (o.map Ieee.double.write):=by
 intro b hb;cases o with
 | none=>cases hb
 | some d=>cases hb; exact Pq d
theorem Ep {f:Nat->Nat->Option Nat} (hf:∀ a b c,f a b=some c->W64 c) (x y:Fl):FW (BC f x y):=by
 intro c hc;cases x with
 | none=>cases hc
 | some a=>cases y with
  | none=>cases hc
  | some b=>exact hf a b c hc
theorem qp (x y:Fl):FW (ai x y):=Ep (λa b c h=>BU c h) x y
theorem dr (x y:Fl):FW (co x y):=Ep (λa b c h=>BU c h) x y
theorem vX (x y:Fl):FW (fdiv x y):=Ep (λa b c h=>BU c h) x y
theorem qq:FW (some 0):=λb h=>by cases h; decide
theorem Ya {x:Fl}:FW (cW x):=by
 cases x with
 | none=>intro c h; cases h
 | some d=>exact jW (n:=d%9223372036854775808) (by unfold W64; omega)
theorem XY (d e:Datum):d.sum e=e.sum d:=by
 cases d <;> cases e <;> simp only[Datum.sum]
 ·rename_i s m i t n j;rw[Int.min_comm i j,Int.add_comm,Bool.and_comm s t]
 ·rename_i s t;by_cases h:s=t
  ·subst h; rfl
  ·rw[if_neg h,if_neg (λe=>h e.symm)]
theorem Az (x y:Fl):ai x y=ai y x:=by
 cases x with
 | none=>cases y <;> rfl
 | some a=>cases y with
  | none=>rfl
  | some b=>
   show((Ieee.double.read a).sum (Ieee.double.read b)).map _=((Ieee.double.read b).sum (Ieee.double.read a)).map _;rw[XY]
def NN (x:Fl):Prop:=∃ b,x=some b/\W64 b/\((∃ m i,Ieee.double.read b=.number false m i)\/Ieee.double.read b=.infinity false)
theorem Zl:NN (some 0):=⟨0,rfl,by decide,.inl ⟨0,-1074,jL⟩⟩
theorem Km {r:Nat} (h:r<=9218868437227405312):NN (some (Ieee.double.word false r)):=by
 refine⟨_,rfl,dY false (by omega),?_⟩;rcases mq false h with e | ⟨m,i,e⟩
 ·exact .inr e
 ·exact .inl ⟨m,i,e⟩
theorem gB (m:Nat) (i:Int):NN (some (Ieee.double.write (.number false m i))):=by rw[di];obtain⟨r,h,hr⟩:=j8 false m i;rw[h]; exact Km hr
theorem gA:NN (some (Ieee.double.write (.infinity false))):=by
 have:Ieee.double.write (.infinity false)=Ieee.double.word false 9218868437227405312:=by rw[<- bf]; rfl
 rw[this]; exact Km (by decide)
theorem NO {x:Fl} {b:Nat} (hx:x=some b) (h:(∃ s m i,Ieee.double.read b=.number s m i) \/ ∃ s,Ieee.double.read b=.infinity s):NN (af x x):=by
 subst hx;rw[BE];rcases h with⟨s,m,i,e⟩ | ⟨s,e⟩
 ·rw[e];have:(Datum.number s m i).product (.number s m i)=some (.number (s ^^ s) (m*m) (i+i)):=rfl;rw[this,Bool.xor_self,Option.map_some]; exact gB _ _
 ·rw[e];have:(Datum.infinity s).product (.infinity s)=some (.infinity (s ^^ s)):=rfl;rw[this,Bool.xor_self,Option.map_some]; exact gA
theorem qv {x:Fl} (hx:ar x=true) (k:Int):NN (af (aF x k) (aF x k)):=by
 obtain⟨b,s,m,i,rfl,h⟩:=aG hx;rw[e_ h];refine NO rfl ?_;obtain⟨r,hr,hle⟩:=j8 s m (i+k);rw[hr];rcases mq s hle with e | ⟨m,i,e⟩
 ·exact .inr ⟨s,e⟩
 ·exact .inl ⟨s,m,i,e⟩
theorem v6 {x y:Fl} (hx:NN x) (hy:NN y):NN (ai x y):=by
 obtain⟨a,rfl,-,ha⟩:=hx;obtain⟨b,rfl,-,hb⟩:=hy;show NN (((Ieee.double.read a).sum (Ieee.double.read b)).map Ieee.double.write);rcases ha with⟨m,i,ha⟩ | ha <;> rcases hb with⟨n,j,hb⟩ | hb <;> rw[ha,hb]
 ·simp only[Datum.sum,Option.map_some];have h1:signed false m (i - min i j).toNat=((m <<< (i - min i j).toNat:Nat):Int):=rfl;have h2:signed false n (j - min i j).toNat=((n <<< (j - min i j).toNat:Nat):Int):=rfl;rw[h1,h2];generalize m <<< (i - min i j).toNat=p;generalize n <<< (j - min i j).toNat=q;by_cases h0:(p:Int)+q=0
  ·rw[if_pos h0]; exact gB _ _
  ·rw[if_neg h0,decide_eq_false (by omega)]; exact gB _ _
 ·exact gA
 ·exact gA
 ·exact gA
theorem CG {x:Fl} (hx:NN x):NN (dm x):=by
 obtain⟨a,rfl,-,ha⟩:=hx;show NN (((Ieee.double.read a).root (Ieee.double.fractionBits+2)).map Ieee.double.write);rcases ha with⟨m,i,ha⟩ | ha <;> rw[ha]
 ·simp only[Datum.root,Bool.false_eq_true,if_false];split
  ·exact gB _ _
  ·exact gB _ _
 ·exact gA
theorem Cd {x:Fl} (hx:NN x):ai (some 0) x=x:=by
 rw[Az];obtain⟨b,rfl,hw,h⟩:=hx;rcases h with⟨m,i,h⟩ | h
 ·by_cases hm:m=0
  ·subst hm;have:=AQ hw h;rw[this];exact CK false false
  ·exact Ez (t:=false) hw h hm
 ·show((Ieee.double.read b).sum (Ieee.double.read 0)).map Ieee.double.write=some b;rw[h,jL];have e:(Datum.infinity false).sum (.number false 0 (-1074))=some (.infinity false):=rfl;rw[e,Option.map_some];have e2:Ieee.double.write (.infinity false)=Ieee.double.word false 9218868437227405312:=by rw[<- bf]; rfl
  rw[e2];unfold Format.read at h;simp only[aI,cO,bf]at h;unfold W64 at hw;split at h
  ·cases h
  ·split at h
   ·cases h
   ·split at h
    ·rename_i h1 h2 h3;have hs:(b / 9223372036854775808%2==1)=false:=by injection h
     have hs2:b / 9223372036854775808%2 ≠ 1:=λe=>by rw[e]at hs; cases hs
     have:b=9218868437227405312:=by omega
     rw[this]; rfl
    ·cases h
def vl (x:Fl):Int:=match x with
 | some b=>match Ieee.double.read b with
  | .number s m i=>signed s m (i+1074).toNat
  | _=>0
 | none=>0
theorem qj {b:Nat} {s:Bool} {m:Nat} {i:Int} (h:Ieee.double.read b=.number s m i):vl (some b)=signed s m (i+1074).toNat:=by unfold vl; simp only[h]
theorem rY (s:Bool) (m a c:Nat):signed s m (a+c)=signed s m a*2 ^ c:=by
 unfold signed;rw[Nat.shiftLeft_add];generalize m <<< a=q;have:((q <<< c:Nat):Int)=(q:Int)*2 ^ c:=by rw[Nat.shiftLeft_eq]; push_cast; rfl
 cases s
 ·simp only[Bool.false_eq_true,if_false]; exact this
 ·simp only[if_true]; rw[this,Int.neg_mul]
theorem yG (x y:Int) (c:Nat):compare (x*2 ^ c) (y*2 ^ c)=compare x y:=by
 have hp:(0:Int)<2 ^ c:=Int.pow_pos (by decide);rcases Int.lt_trichotomy x y with h | h | h
 ·rw[Int.compare_eq_lt.2 h,Int.compare_eq_lt.2 (Int.mul_lt_mul_of_pos_right h hp)]
 ·subst h; rw[Int.compare_eq_eq.2 rfl,Int.compare_eq_eq.2 rfl]
 ·rw[Int.compare_eq_gt.2 h,Int.compare_eq_gt.2 (Int.mul_lt_mul_of_pos_right h hp)]
theorem q9 {x y:Fl} (hx:ar x=true) (hy:ar y=true):lU x y=some (compare (vl x) (vl y)):=by
 obtain⟨a,s,m,i,rfl,ha⟩:=aG hx;obtain⟨b,t,n,j,rfl,hb⟩:=aG hy;have ga:=bg ha;have gb:=bg hb;show(Ieee.double.read a).order (Ieee.double.read b)=_;rw[ha,hb,qj ha,qj hb];simp only[Datum.order];have e1:(i+1074).toNat=(i - min i j).toNat+(min i j+1074).toNat:=by omega
 have e2:(j+1074).toNat=(j - min i j).toNat+(min i j+1074).toNat:=by omega
 rw[e1,e2,rY,rY,yG]
theorem afA {x y:Fl} (hx:ar x=true) (hy:ar y=true):feq x y=decide (vl x=vl y):=by unfold feq;rw[q9 hx hy,Bool.eq_iff_iff,decide_eq_true_iff,beq_iff_eq,Option.some.injEq,Int.compare_eq_eq]
theorem afC {x y:Fl} (hx:ar x=true) (hy:ar y=true):fge x y=decide (vl y<=vl x):=by unfold fge;rw[q9 hx hy,Bool.eq_iff_iff,decide_eq_true_iff,Bool.or_eq_true,beq_iff_eq,beq_iff_eq,Option.some.injEq,Option.some.injEq,Int.compare_eq_eq,Int.compare_eq_gt];omega
theorem Fh {x y:Fl} (hx:ar x=true) (hy:ar y=true):ar (fmm true x y)=true/\vl (fmm true x y)=max (vl x) (vl y)/\(fmm true x y=x\/fmm true x y=y):=by
 have ho:=q9 hx hy;obtain⟨a,s,m,i,rfl,ha⟩:=aG hx;obtain⟨b,t,n,j,rfl,hb⟩:=aG hy;have ho':Ieee.double.order a b=some (compare (vl (some a)) (vl (some b))):=ho;have e:fmm true (some a) (some b)=(match Ieee.double.order a b with
  | none=>none
  | some .lt=>some (cond true b a)
  | some .gt=>some (cond true a b)
  | some .eq=>some (cond (Ieee.double.read a).neg (cond true b a) (cond true a b))):=rfl
 rw[e,ho'];cases hc:compare (vl (some a)) (vl (some b))with
 | lt=>
  have:=Int.compare_eq_lt.1 hc;exact⟨hy,by show vl (some b)=_; omega,.inr rfl⟩
 | gt=>
  have:=Int.compare_eq_gt.1 hc;exact⟨hx,by show vl (some a)=_; omega,.inl rfl⟩
 | eq=>
  have:=Int.compare_eq_eq.1 hc;show ar (some (cond _ b a))=true/\vl (some (cond _ b a))=_/\(some (cond _ b a)=some a\/some (cond _ b a)=some b);cases (Ieee.double.read a).neg
  ·exact⟨hx,by show vl (some a)=_; omega,.inl rfl⟩
  ·exact⟨hy,by show vl (some b)=_; omega,.inr rfl⟩
theorem afF {x y:Fl} (hx:ar x=true) (hy:ar y=true) (hwx:FW x) (hwy:FW y):FW (fmm true x y):=by
 rcases (Fh hx hy).2.2 with h | h <;> rw[h]
 ·exact hwx
 ·exact hwy
theorem CJ {x:Fl} (hx:ar x=true) (hw:FW x):ar (cW x)=true:=by obtain⟨b,s,m,i,rfl,h⟩:=aG hx;obtain⟨c,hc,-,hr⟩:=jT (hw b rfl) h;rw[hc]; exact fS hr
def cQ (xs:List Fl):Nat->Fl
 | 0=>some 0
 | n+1=>fmm true (cQ xs n) (cW (xs.getD n none))
def vE (xs:List Fl):Prop:=∀ i,i<xs.length->ar (xs.getD i none)=true/\FW (xs.getD i none)
theorem j6 {xs:List Fl} (h:vE xs):∀ n,n<=xs.length->ar (cQ xs n)=true/\FW (cQ xs n):=by
 intro n;induction n with
 | zero=>intro _; exact⟨(by decide:ar (some 0)=true),qq⟩
 | succ n ih=>
  intro hn;obtain⟨h1,h2⟩:=ih (by omega);obtain⟨h3,h4⟩:=h n (by omega);have h5:=CJ h3 h4;exact⟨(Fh h1 h5).1,afF h1 h5 h2 Ya⟩
theorem BL {N:Nat} {xs:List Fl} (hN:1000<=N) (hl:xs.length<=48) (k:Int->Bool->Bool) :
  Lq N xs k=cond (feq (cQ xs xs.length) (some 0)) (k 0 false) (kb N (cQ xs xs.length) (λ_ nr=>aw .i64 (nr - 1)&&k (nr - 1) true)):=by
 unfold Lq J7;refine jG (λn=>(cQ xs n,(n:Int))) xs.length rfl (by omega) (λi hi K=>?_) (λK=>?_)
 ·simp only[iC,dg,Int.toNat_natCast];rw[dT (by omega),cond_true,aA (aQ (by omega) (by omega)),aA (aq (by omega) (by omega))];rfl
 ·simp only[iC];rw[dZ (by omega),cond_false]
theorem od {N:Nat} {xs:List Fl} (hN:1000<=N) (hl:xs.length<=48) (k:Int->Bool->Bool) :
  A5 N xs k=cond (feq (cQ xs xs.length) (some 0)) (k 0 false) (kb N (cQ xs xs.length) (λ_ nr=>aw .i64 (nr - 1)&&k (nr - 1) true)):=by
 unfold A5 JU;refine jG (λn=>(cQ xs n,(n:Int))) xs.length rfl (by omega) (λi hi K=>?_) (λK=>?_)
 ·simp only[gU,dg,Int.toNat_natCast];rw[dT (by omega),cond_true,aA (aQ (by omega) (by omega)),aA (aq (by omega) (by omega))];rfl
 ·simp only[gU];rw[dZ (by omega),cond_false]
def ks (ys:List Fl):Nat->Fl
 | 0=>some 0
 | n+1=>ai (ks ys n) (af (ys.getD n none) (ys.getD n none))
def scl (xs:List Fl) (k:Int):List Fl:=xs.map λx=>aF x k
theorem yb (xs:List Fl) (k:Int):(scl xs k).length=xs.length:=by simp[scl]
theorem x_ (xs:List Fl) (k:Int) {i:Nat} (h:i<xs.length):(scl xs k).getD i none=aF (xs.getD i none) k:=by unfold scl;rw[List.getD_eq_getElem?_getD,List.getD_eq_getElem?_getD,List.getElem?_map,List.getElem?_eq_getElem h];rfl
theorem Bh {α:Type} (ys:List α) (d:α) {i:Nat} (hi:i<ys.length):ys.take i++[ys.getD i d]=ys.take (i+1):=by rw[List.getD_eq_getElem?_getD,List.getElem?_eq_getElem hi,Option.getD_some,List.take_add_one,List.getElem?_eq_getElem hi]; rfl
theorem UR {α:Type} (ys:List α) (z d:α) {i:Nat} (hi:i<ys.length):(ys.take i++List.replicate (ys.length - i) z).set i (ys.getD i d)=ys.take (i+1)++List.replicate (ys.length - (i+1)) z:=by
 have h1:(ys.take i).length=i:=by rw[List.length_take]; omega
 have h2:ys.length - i=(ys.length - (i+1))+1:=by omega
 rw[List.set_append_right _ _ (by omega),h1,Nat.sub_self,h2,List.replicate_succ,List.set_cons_zero,<- Bh ys d hi,List.append_assoc];rfl
theorem KH {N:Nat} {xs:List Fl} (hN:1000<=N) (hl:xs.length<=48) (hf:vE xs) {e:Int} (h1 : -4000<=e) (h2:e<=4000) (k:Fl->List Fl->Bool) :
  Ll N xs e k=k (dm (ks (scl xs (0 - e)) xs.length)) (scl xs (0 - e)):=by
 unfold Ll J4;rw[aA ((Dw _ _ _).2 (by omega)),Int.toNat_natCast];have hlen:=yb xs (0 - e);refine jG (λn=>(ks (scl xs (0 - e)) n,(n:Int),(scl xs (0 - e)).take n++List.replicate ((scl xs (0 - e)).length - n) (some 0))) xs.length (by rw[hlen]; rfl) (by omega) (λi hi K=>?_) (λK=>?_)
 ·obtain⟨h3,h4⟩:=hf i hi;simp only[gO,Int.toNat_natCast];rw[dT (by omega),cond_true,aA (aQ (by omega) (by omega)),aA (aq (by omega) (by omega)),ik N h3 h4 (by omega) (by omega)];rw[<- x_ xs (0 - e) hi];have hst:=UR (scl xs (0 - e)) (some 0) none (i:=i) (by omega);have hL:((scl xs (0 - e)).take i++List.replicate ((scl xs (0 - e)).length - i) (some 0)).length=xs.length:=by rw[List.length_append,List.length_take,List.length_replicate]; omega
  have hL':((scl xs (0 - e)).take (i+1)++List.replicate ((scl xs (0 - e)).length - (i+1)) (some 0)).length=xs.length:=by rw[List.length_append,List.length_take,List.length_replicate]; omega
  simp only[hst,hL,hL'];rw[aA (aQ (by omega) (by omega)),aA (dT (by omega)),aA (aQ (by omega) (by omega)),aA (dT (by omega)),aA (aQ (by omega) (by omega)),aA (dT (by omega)),aA (aq (by omega) (by omega))];have hg:((scl xs (0 - e)).take (i+1)++List.replicate ((scl xs (0 - e)).length - (i+1)) (some 0)).getD i none=(scl xs (0 - e)).getD i none:=by rw[List.getD_eq_getElem?_getD,List.getD_eq_getElem?_getD,List.getElem?_append,if_pos (by rw[List.length_take]; omega),List.getElem?_take,if_pos (by omega)]
  rw[hg];rfl
 ·simp only[gO];rw[dZ (by omega),cond_false];have:(scl xs (0 - e)).take xs.length++List.replicate ((scl xs (0 - e)).length - xs.length) (some 0)=scl xs (0 - e):=by rw[hlen,Nat.sub_self,List.replicate_zero,List.append_nil,List.take_of_length_le (by omega)]
  rw[this];rfl
theorem BM {N:Nat} {ys:List Fl} (hN:1000<=N) (hl:ys.length<=48) (k:Fl->Bool):Lr N ys ys k=k (ks ys ys.length):=by
 unfold Lr J8;refine jG (λn=>(ks ys n,(n:Int))) ys.length rfl (by omega) (λi hi K=>?_) (λK=>?_)
 ·simp only[jB,Int.toNat_natCast];rw[dT (by omega),cond_true,aA (aQ (by omega) (by omega)),aA (aQ (by omega) (by omega)),aA (aq (by omega) (by omega))];rfl
 ·simp only[jB];rw[dZ (by omega),cond_false]
theorem FG {N:Nat} {xs:List Fl} (hN:1000<=N) (hl:xs.length<=48) (hf:vE xs) {e:Int} (h1 : -4000<=e) (h2:e<=4000) (k:Fl->List Fl->Bool) :
  DW N xs e k=k (dm (ks (scl xs (0 - e)) xs.length)) (scl xs (0 - e)):=by
 unfold DW J0;have hlen:=yb xs (0 - e);refine jG (λn=>((n:Int),(scl xs (0 - e)).take n)) xs.length rfl (by omega) (λi hi K=>?_) (λK=>?_)
 ·obtain⟨h3,h4⟩:=hf i hi;simp only[fV,Int.toNat_natCast];rw[dT (by omega),cond_true,aA (aQ (by omega) (by omega)),aA (aq (by omega) (by omega)),jI hN h3 h4 (by omega) (by omega)];rw[<- x_ xs (0 - e) hi,Bh _ _ (by omega)];rw[aA (dT (by rw[List.length_take]; omega)),aA (aq (by omega) (by omega))];rfl
 ·simp only[fV];rw[dZ (by omega),cond_false,List.take_of_length_le (by omega),BM hN (by omega),hlen];rfl
theorem pd (N:Nat) (k:Int) (κ:Fl->Bool):pZ N (some 9218868437227405312) k κ=κ (some 9218868437227405312):=by
 unfold pZ Qp Lx wA;have h1:feq (some 9218868437227405312) (some 0)=false:=by decide
 rw[h1,cond_false];unfold A6 Cs;rw[show((0:Int)==0)=true from rfl,cond_true];simp only[dg];have h2:fgt (cW (some 9218868437227405312)) (some 9218868437227405311)=true:=by decide
 rw[h2];rfl
theorem yS {N:Nat} (hN:1000<=N) (k:Int) (κ:Fl->Bool):yX N (some 9218868437227405312) k κ=κ (some 9218868437227405312):=by
 unfold yX Qs;show A7 N ((9218868437227405312:Nat):Int) k _=_;have hK:∀ x,Le N x=x:=λ_=>rfl
 have hD:∀ x,K1 N x=x:=λ_=>rfl
 unfold A7 wv;rw[hK,hD];unfold A8 Cv;rw[BD,RO,CP,Q1,ace,Ni];have e1:((9218868437227405312 / 4503599627370496%2048:Nat):Int)=2047:=by decide
 have e2:((9218868437227405312%4503599627370496:Nat):Int)=0:=by decide
 have e3:(9218868437227405312 / 9223372036854775808%2==1)=false:=by decide
 rw[e1,e3,al (aq (by omega) (by omega)),iA _ (by decide) _ (aS hN (by decide)) (by omega)];dsimp only;rw[e2,show((2047:Int)==2047)=true by decide,cond_true,show((0:Int) != 0)=false by decide,cond_false];unfold wB;rw[hD];unfold DR Cq;rw[show((1:Int)==2)=false by decide,cond_false,show((1:Int)==1)=true by decide,cond_true,rB];rfl
theorem Dm {b:Nat} (hw:W64 b) (h:Ieee.double.read b=.infinity false):b=9218868437227405312:=by
 unfold Format.read at h;simp only[aI,cO,bf]at h;unfold W64 at hw;split at h
 ·cases h
 ·split at h
  ·cases h
  ·split at h
   ·have hs:(b / 9223372036854775808%2==1)=false:=by injection h
    have hs2:b / 9223372036854775808%2 ≠ 1:=λe=>by rw[e]at hs; cases hs
    omega
   ·cases h
theorem BN {N:Nat} (hN:1000<=N) {g:Fl} (hg:NN g) {e:Int} (h1 : -5000<=e) (h2:e<=5000):(∀ κ,pZ N g e κ=κ (aF g e))/\(∀ κ,yX N g e κ=κ (aF g e)):=by
 obtain⟨b,rfl,hw,h | h⟩:=hg
 ·obtain⟨m,i,h⟩:=h;have hf:=fS h;have hF:FW (some b):=λc hc=>by cases hc; exact hw
  exact⟨λκ=>ik N hf hF h1 h2 κ,λκ=>jI hN hf hF h1 h2 κ⟩
 ·have hb:=Dm hw h;have e:aF (some b) e=some b:=by unfold aF; simp only[h]
  rw[e,hb];exact⟨λκ=>pd N _ κ,λκ=>yS hN _ κ⟩
theorem CH {xs:List Fl} (hf:vE xs) (k:Int):∀ n,n<=xs.length->NN (ks (scl xs k) n):=by
 intro n;induction n with
 | zero=>intro _; exact Zl
 | succ n ih=>
  intro hn;refine v6 (ih (by omega)) ?_;rw[x_ xs k (by omega)];exact qv (hf n (by omega)).1 k
theorem wg {xs:List Fl} (hw:∀ i,i<xs.length->FW (xs.getD i none)) (ha:bA xs=true):vE xs:=
 λi hi=>⟨iE.1 ha i hi,hw i hi⟩
theorem vj {N:Nat} (hN:1000<=N) {xs:List Fl} (hl:xs.length<=48) (hw:∀ i,i<xs.length->FW (xs.getD i none)) :
  ∃ x n,(ar x=true/\(bA xs=true->n=0\/n=5))/\(∀ κ,jk N xs κ=κ x n)/\(∀ κ,xV N xs κ=κ x n):=by
 have hS:zG N xs.length:=⟨by omega,by omega⟩
 have d1:decide (((xs.length:Nat):Int)>48)=false:=dZ (by omega);have n4:((4:Int) != 0)=true:=by decide
 have n0:((0:Int) != 0)=false:=by decide
 cases ha:bA xs with
 | false=>
  refine⟨some 0,4,⟨(by decide:ar (some 0)=true),λh=>by cases h⟩,λκ=>?_,λκ=>?_⟩
  ·unfold jk zu D2 zB;rw[d1,cond_false,pO xs hS,ha];dsimp only;rw[Bool.not_false,cond_true,n4,cond_true]
  ·unfold xV Cn Lu Cy;rw[d1,cond_false,iz xs hS,ha];dsimp only;rw[Bool.not_false,cond_true,n4,cond_true]
 | true=>
  have hf:=wg hw ha;obtain⟨hm,hmw⟩:=j6 hf xs.length (Nat.le_refl _);have q1:∀ κ,jk N xs κ=xX N xs (λxr=>cond (!ar xr) (κ (some 0) 5) (κ xr 0)):=by intro κ;unfold jk zu D2 zB;rw[d1,cond_false,pO xs hS,ha];dsimp only;rw[Bool.not_true,cond_false,n0,cond_false];simp only[Ln,Cu,Ff]
  have q2:∀ κ,xV N xs κ=A5 N xs (λe c=>cond (!c) (κ (some 0) 0) (DW N xs e (λg _=>yX N g e (λxr=>cond (!ar xr) (κ (some 0) 5) (κ xr 0))))):=by intro κ;unfold xV Cn Lu Cy;rw[d1,cond_false,iz xs hS,ha];dsimp only;rw[Bool.not_true,cond_false,n0,cond_false];simp only[nv]
  cases h0:feq (cQ xs xs.length) (some 0)with
  | true=>
   refine⟨some 0,0,⟨(by decide:ar (some 0)=true),λ_=>.inl rfl⟩,λκ=>?_,λκ=>?_⟩
   ·rw[q1];unfold xX zx;rw[BL hN hl,h0,cond_true];rfl
   ·rw[q2,od hN hl,h0,cond_true];rfl
  | false=>
   obtain⟨fr,e,he,he1,he2,-⟩:=oh N hm hmw h0;have hg:NN (dm (ks (scl xs (0 - (e - 1))) xs.length)):=CG (CH hf _ _ (Nat.le_refl _));obtain⟨s1,s2⟩:=BN hN hg (e:=e - 1) (by omega) (by omega);have r1:∀ κ,jk N xs κ=(λxr=>cond (!ar xr) (κ (some 0) 5) (κ xr 0)) (aF (dm (ks (scl xs (0 - (e - 1))) xs.length)) (e - 1)):=by intro κ;rw[q1];unfold xX zx;rw[BL hN hl,h0,cond_false,he];dsimp only;rw[al (aq (by omega) (by omega)),Bool.not_true,cond_false,KH hN hl hf (by omega) (by omega),s1]
   have r2:∀ κ,xV N xs κ=(λxr=>cond (!ar xr) (κ (some 0) 5) (κ xr 0)) (aF (dm (ks (scl xs (0 - (e - 1))) xs.length)) (e - 1)):=by intro κ;rw[q2,od hN hl,h0,cond_false,he];dsimp only;rw[al (aq (by omega) (by omega)),Bool.not_true,cond_false,FG hN hl hf (by omega) (by omega),s2]
   generalize aF (dm (ks (scl xs (0 - (e - 1))) xs.length)) (e - 1)=y at r1 r2;cases hy:ar y with
   | false=>
    refine⟨some 0,5,⟨(by decide:ar (some 0)=true),λ_=>.inr rfl⟩,λκ=>?_,λκ=>?_⟩
    ·rw[r1]; dsimp only; rw[hy]; rfl
    ·rw[r2]; dsimp only; rw[hy]; rfl
   | true=>
    refine⟨y,0,⟨hy,λ_=>.inl rfl⟩,λκ=>?_,λκ=>?_⟩
    ·rw[r1]; dsimp only; rw[hy]; rfl
    ·rw[r2]; dsimp only; rw[hy]; rfl
def GE1 (x:Fl):Prop:=∃ b,x=some b/\W64 b/\(Ieee.double.read b=.infinity false \/ ∃ m i,Ieee.double.read b=.number false m i/\4503599627370496<=m/\m<9007199254740992 /\ -52<=i)
theorem uU {m:Nat} (h0:m ≠ 0) {i:Int} (h:0<=i+m.log2):GE1 (some (Ieee.double.nearest false m i)):=by
 obtain⟨r,hr,h1,h2⟩:=xL false h0 (i:=i) (E:=1023) (by decide) (by decide) (by omega);refine⟨_,rfl,vo _ _ _,?_⟩;rw[hr];rcases KX false (E:=1023) (by decide) h1 h2 with e | ⟨m',i',e,h3,h4,h5⟩
 ·exact .inl e
 ·exact .inr ⟨m',i',e,h3,h4,by omega⟩
theorem vZ:GE1 (some (Ieee.double.write (.infinity false))):=by
 have:Ieee.double.write (.infinity false)=Ieee.double.word false 9218868437227405312:=by rw[<- bf]; rfl
 rw[this];exact⟨_,rfl,dY false (by decide),.inl (by decide)⟩
theorem jP {x y:Fl} (hx:GE1 x) (hy:NN y):GE1 (ai x y):=by
 obtain⟨a,rfl,-,ha⟩:=hx;obtain⟨b,rfl,-,hb⟩:=hy;show GE1 (((Ieee.double.read a).sum (Ieee.double.read b)).map Ieee.double.write);rcases ha with ha | ⟨m,i,ha,hm,-,hi⟩ <;> rcases hb with⟨n,j,hb⟩ | hb <;> rw[ha,hb]
 ·exact vZ
 ·exact vZ
 ·simp only[Datum.sum,Option.map_some];have h1:signed false m (i - min i j).toNat=((m <<< (i - min i j).toNat:Nat):Int):=rfl;have h2:signed false n (j - min i j).toNat=((n <<< (j - min i j).toNat:Nat):Int):=rfl;rw[h1,h2];have hge:2 ^ (52+(i - min i j).toNat)<=m <<< (i - min i j).toNat:=by rw[Nat.shiftLeft_eq,Nat.pow_add];exact Nat.mul_le_mul_right _ (by simpa using hm)
  have hpos:0<2 ^ (52+(i - min i j).toNat):=Nat.two_pow_pos _;generalize hp:m <<< (i - min i j).toNat=p at *;generalize n <<< (j - min i j).toNat=q;rw[if_neg (by omega),decide_eq_false (by omega),di];have hab:((p:Int)+(q:Int)).natAbs=p+q:=by omega
  rw[hab];refine uU (by omega) ?_;have hl:52+(i - min i j).toNat<=(p+q).log2:=(Nat.le_log2 (by omega)).2 (by omega);omega
 ·exact vZ
theorem sm {x y:Fl} (hx:NN x) (hy:GE1 y):GE1 (ai x y):=by rw[Az]; exact jP hy hx
def Dv (x:Fl):Prop:=∃ b,x=some b/\(Ieee.double.read b=.infinity false \/ ∃ m i,Ieee.double.read b=.number false m i/\m ≠ 0)
theorem Pv {x:Fl} (hx:GE1 x):Dv (dm x):=by
 obtain⟨a,rfl,-,ha⟩:=hx;show Dv (((Ieee.double.read a).root (Ieee.double.fractionBits+2)).map Ieee.double.write);rcases ha with ha | ⟨m,i,ha,hm,hm2,hi⟩ <;> rw[ha]
 ·obtain⟨b,e,-,h⟩:=vZ;refine⟨b,e,?_⟩;rcases h with h | ⟨m,i,h,h2,-⟩
  ·exact .inl h
  ·exact .inr ⟨m,i,h,by omega⟩
 ·simp only[Datum.root,Bool.false_eq_true,if_false];rw[if_neg (by omega)];have hf:Ieee.double.fractionBits=52:=rfl;have hl:m.log2=52:=iK ⟨hm,hm2⟩;rw[hf,hl];generalize hmore:2*(52+2) - 52+((i - ((2*(52+2) - 52:Nat):Int))%2).toNat=more;have hmore2:more<=57:=by omega
  have hn:m <<< more ≠ 0:=by rw[Nat.shiftLeft_eq];exact Nat.mul_ne_zero (by omega) (Nat.pos_iff_ne_zero.1 (Nat.two_pow_pos _))
  generalize m <<< more=n at hn;generalize Datum.rootFrom n (n.log2 / 2+1) 0=w;rw[Option.map_some,di];have h0:2*w+(w*w != n).toNat ≠ 0:=by
   by_cases hw:w=0
   ·subst hw;have:(0*0 != n)=true:=by rw[bne_iff_ne]; omega
    rw[this]; decide
   ·omega
  generalize 2*w+(w*w != n).toNat=p at h0;have hE:((900:Nat):Int)<=(i - (more:Int)) / 2 - 1+p.log2+1023:=by omega
  obtain⟨r,hr,h1,h2⟩:=xL false h0 (E:=900) (by decide) (by decide) hE;refine⟨_,rfl,?_⟩;rw[hr];rcases KX false (E:=900) (by decide) h1 h2 with e | ⟨m',i',e,h3,-⟩
  ·exact .inl e
  ·exact .inr ⟨m',i',e,by omega⟩
theorem KL {m m':Nat} {i i':Int} (h0:m' ≠ 0) (h:m'*2 ^ (i'+1074).toNat<=m*2 ^ (i+1074).toNat) (hi : -1074<=i) (hi' : -1074<=i'):i'+m'.log2<=i+m.log2:=by
 have h1:=Nat.log2_self_le h0;have h2:m<2 ^ (m.log2+1):=Nat.lt_log2_self;have h3:2 ^ (m'.log2+(i'+1074).toNat)<2 ^ (m.log2+1+(i+1074).toNat):=by rw[Nat.pow_add,Nat.pow_add];exact Nat.lt_of_le_of_lt (Nat.mul_le_mul_right _ h1) (Nat.lt_of_le_of_lt h (Nat.mul_lt_mul_of_pos_right h2 (Nat.two_pow_pos _)))
 have h4:=(Nat.pow_lt_pow_iff_right (by decide:1<2)).1 h3;omega
theorem nS {x:Fl} (hx:ar x=true) (hw:FW x) {b:Nat} {s:Bool} {m:Nat} {i:Int} (e:x=some b) (h:Ieee.double.read b=.number s m i):vl (cW x)=((m*2 ^ (i+1074).toNat:Nat):Int):=by subst e;obtain⟨c,hc,hcw,hcr⟩:=jT (hw b rfl) h;rw[hc,qj hcr,<- Nat.shiftLeft_eq]; rfl
theorem wj {xs:List Fl} (h:vE xs):∀ n,n<=xs.length->(∀ i,i<n->vl (cW (xs.getD i none))<=vl (cQ xs n))/\(cQ xs n=some 0 \/ ∃ i,i<n/\cQ xs n=cW (xs.getD i none)):=by
 intro n;induction n with
 | zero=>intro _; exact⟨λi hi=>absurd hi (Nat.not_lt_zero _),.inl rfl⟩
 | succ n ih=>
  intro hn;obtain⟨h1,h2⟩:=ih (by omega);obtain⟨h3,h4⟩:=j6 h n (by omega);obtain⟨h5,h6⟩:=h n (by omega);obtain⟨-,h8,h9⟩:=Fh h3 (CJ h5 h6);refine⟨λi hi=>?_,?_⟩
  ·show _<=vl (fmm true (cQ xs n) (cW (xs.getD n none)));rw[h8];by_cases hin:i=n
   ·subst hin; omega
   ·have:=h1 i (by omega); omega
  ·show fmm true (cQ xs n) (cW (xs.getD n none))=_ \/ ∃ i,_/\fmm true (cQ xs n) (cW (xs.getD n none))=_;rcases h9 with e | e
   ·rw[e];rcases h2 with e2 | ⟨i,hi,e2⟩
    ·exact .inl e2
    ·exact .inr ⟨i,by omega,e2⟩
   ·exact .inr ⟨n,by omega,e⟩
theorem O9 {N:Nat} {xs:List Fl} (hf:vE xs) (h0:feq (cQ xs xs.length) (some 0)=false) :
  ∃ fr e,(∀ κ:Fl->Int->Bool,kb N (cQ xs xs.length) κ=κ fr e) /\ -1200<=e/\e<=1200 /\
   (∀ i,i<xs.length->ar (aF (xs.getD i none) (1 - e))=true) /\
   ∃ j,j<xs.length/\GE1 (af (aF (xs.getD j none) (1 - e)) (aF (xs.getD j none) (1 - e))):=by
 obtain⟨hm,hmw⟩:=j6 hf xs.length (Nat.le_refl _);obtain⟨hle,hone⟩:=wj hf xs.length (Nat.le_refl _);obtain⟨fr,e,he,he1,he2,he3⟩:=oh N hm hmw h0;obtain⟨b,s,m,i,hb,hr⟩:=aG hm;have hei:=he3 b s m i hb hr;have hm0:m ≠ 0:=by rw[hb,ni hr]at h0;exact of_decide_eq_false h0
 have hgi:=bg hr;rcases hone with e0 | ⟨j,hj,ej⟩
 ·rw[e0]at h0;exact absurd h0 (by decide)
 obtain⟨hjf,hjw⟩:=hf j hj;obtain⟨bj,sj,mj,ij,hbj,hrj⟩:=aG hjf;have hsame:mj=m/\ij=i:=by obtain⟨c,hc,hcw,hcr⟩:=jT (hjw bj hbj) hrj;rw[hbj,hc]at ej;rw[ej]at hb;cases hb;rw[hcr]at hr;cases hr;exact⟨rfl,rfl⟩
 obtain⟨rfl,rfl⟩:=hsame;have hvm:vl (cQ xs xs.length)=((mj*2 ^ (ij+1074).toNat:Nat):Int):=by rw[ej]; exact nS hjf hjw hbj hrj
 refine⟨fr,e,he,he1,he2,λl hl=>?_,j,hj,?_⟩
 ·obtain⟨hlf,hlw⟩:=hf l hl;obtain⟨bl,sl,ml,il,hbl,hrl⟩:=aG hlf;rw[hbl,e_ hrl];have hb2:il+(1 - e)+ml.log2<=1000:=by
   by_cases hz:ml=0
   ·obtain⟨-,-,hh⟩:=cE hrl;subst hz;have:(0:Nat).log2=0:=by decide
    omega
   ·have hv:=hle l hl;rw[hvm,nS hlf hlw hbl hrl]at hv;have:=KL hz (Int.ofNat_le.1 hv) hgi (bg hrl);omega
  obtain⟨r,hr2,hr3⟩:=Dz sl (m:=ml) (i:=il+(1 - e)) hb2;rw[hr2];obtain⟨m',i',e'⟩:=Uq sl hr3;exact fS e'
 ·rw[hbj,e_ hrj];have hpm:=dn hrj;obtain⟨h1,h2⟩:=BP hm0 hpm.2;have e2:Ieee.double.nearest sj mj (ij+(1 - e))=Ieee.double.nearest sj (mj <<< (52 - mj.log2)) (-52):=by
   rw[<- jt sj mj (ij+(1 - e))];congr 1;have:mj.log2<=52:=by have:=(Nat.log2_lt hm0).2 (by simpa using hpm.2:mj<2 ^ 53);omega
   omega
  have e3:Ieee.double.nearest sj (mj <<< (52 - mj.log2)) (-52)=Ieee.double.word sj (((-52:Int)+1075).toNat*4503599627370496+(mj <<< (52 - mj.log2) - 4503599627370496)):=
   ff (dY sj (by omega)) (dA sj _ _ ⟨h1,h2⟩ (by omega))
  rw[e2,e3,BE,dA sj _ _ ⟨h1,h2⟩ (by omega)];generalize mj <<< (52 - mj.log2)=M at h1 h2;have:(Datum.number sj M (-52)).product (.number sj M (-52))=some (.number (sj ^^ sj) (M*M) (-52 + -52)):=rfl;rw[this,Bool.xor_self,Option.map_some,di];have hMM:4503599627370496*4503599627370496<=M*M:=Nat.mul_le_mul h1 h1;refine uU (by omega) ?_;have hl:104<=(M*M).log2:=(Nat.le_log2 (by omega)).2 (Nat.le_trans (by decide) hMM);omega
theorem fN {N:Nat} (hN:1000<=N) {n:Nat} (h:n<=48):zG N n:=⟨by omega,by omega⟩
theorem le3 (a b c:Fl):[a,b,c].length<=48:=Nat.le_of_ble_eq_true rfl
theorem le4 (a b c d:Fl):[a,b,c,d].length<=48:=Nat.le_of_ble_eq_true rfl
theorem pN {N:Nat} (xs:List Fl) (hl:zG N xs.length) (k:Bool->Bool):D3 N xs k=k (bA xs):=by
 unfold D3 YW;rw[<- E7 (bA xs) k];refine(uv (λi=>(i:Int)) (λi=>ar (xs.getD i none)) xs.length hl.1 (λi hi K=>?_) (λK=>?_):_)
 ·have h2:=hl.2;simp only[fI,Int.toNat_natCast,Ff];rw[dT (by omega),cond_true,aA (aQ (by omega) (by omega)),aA (aQ (by omega) (by omega)),aA (aq (by omega) (by omega))];cases ar (xs.getD i none) <;> rfl
 ·simp only[fI];rw[dZ (by omega),cond_false]
theorem nt {N:Nat} (hN:1000<=N) (a b c d:Fl) (k:Bool->Bool):UC N a b c d k=k (bA [a,b,c,d]):=
 iz _ (fN hN (Nat.le_of_ble_eq_true rfl)) _
theorem rC {N:Nat} (hN:1000<=N) (a b c d:Fl) (k:Bool->Bool):Gi N a b c d k=k (bA [a,b,c,d]):=by unfold Gi YS;rw[pN _ (fN hN (Nat.le_of_ble_eq_true rfl))];cases bA [a,b,c,d] <;> rfl
theorem FW3 {a b c:Fl} (ha:FW a) (hb:FW b) (hc:FW c):∀ i,i < [a,b,c].length->FW ([a,b,c].getD i none):=by
 intro i hi
 match i,hi with
 | 0,_=>exact ha
 | 1,_=>exact hb
 | 2,_=>exact hc
theorem FW4 {a b c d:Fl} (ha:FW a) (hb:FW b) (hc:FW c) (hd:FW d):∀ i,i < [a,b,c,d].length->FW ([a,b,c,d].getD i none):=by
 intro i hi
 match i,hi with
 | 0,_=>exact ha
 | 1,_=>exact hb
 | 2,_=>exact hc
 | 3,_=>exact hd
theorem Dd (b:Nat):ar (some b)=decide (b%9223372036854775808<9218868437227405312):=by
 unfold ar Format.read;simp only[aI,cO,bf];by_cases h1:b%9223372036854775808<4503599627370496
 ·rw[if_pos h1,decide_eq_true (by omega)]; rfl
 ·rw[if_neg h1];by_cases h2:b%9223372036854775808<9218868437227405312
  ·rw[if_pos h2,decide_eq_true h2]; rfl
  ·rw[if_neg h2,decide_eq_false h2];split <;> rfl
def Nn (x:Fl):Prop:=∃ b,x=some b/\isNaN b=false
theorem v8:Nn (some 0):=⟨0,rfl,by decide⟩
theorem Zm (s:Bool) {r:Nat} (h:r<=9218868437227405312):Nn (some (Ieee.double.word s r)):=by
 refine⟨_,rfl,?_⟩;rw[Bool.eq_false_iff];intro hc;have h1:=(fA _).1 hc;have hw:Ieee.double.word s r%9223372036854775808=r:=by unfold Format.word; rw[aI]; cases s <;> simp <;> omega
 omega
theorem wC (s:Bool) (m:Nat) (i:Int):Nn (some (Ieee.double.nearest s m i)):=by obtain⟨r,h,hr⟩:=j8 s m i;rw[h]; exact Zm s hr
theorem v7 {x y:Fl} (hx:ar x=true) (hy:Dv y):Nn (fdiv x y):=by
 obtain⟨a,s,m,i,rfl,ha⟩:=aG hx;obtain⟨b,rfl,hb⟩:=hy;show Nn (((Ieee.double.read a).quotient (Ieee.double.fractionBits+2) (Ieee.double.read b)).map Ieee.double.write);rw[ha];rcases hb with hb | ⟨n,j,hb,hn⟩
 ·rw[hb]; exact wC _ _ _
 ·rw[hb]; simp only[Datum.quotient,if_neg hn]; exact wC _ _ _
abbrev K4:=Fl->Fl->Fl->Fl->Int->Bool
def ab0 (f g:K4->Bool):Prop:=∃ a b c d n,(Nn a/\Nn b/\Nn c/\Nn d)/\(∀ κ,f κ=κ a b c d n)/\(∀ κ,g κ=κ a b c d n)
theorem CU {f g:K4->Bool} {n:Int} (hf:∀ κ,f κ=κ (some 0) (some 0) (some 0) (some 0) n) (hg:∀ κ,g κ=κ (some 0) (some 0) (some 0) (some 0) n):ab0 f g:=
 ⟨_,_,_,_,n,⟨v8,v8,v8,v8⟩,hf,hg⟩
theorem X8 {N:Nat} (hN:1000<=N) {a b c d:Fl} (hall:bA [a,b,c,d]=true) (hf:vE [a,b,c,d]) {fr:Fl} {e:Int} (h0:feq (cQ [a,b,c,d] 4) (some 0)=false)
  (he:∀ κ:Fl->Int->Bool,kb N (cQ [a,b,c,d] 4) κ=κ fr e) (he1 : -1200<=e) (he2:e<=1200) (κ:K4) :
  uJ N a b c d κ=(λg=>κ (fdiv (aF a (1 - e)) g) (fdiv (aF b (1 - e)) g) (fdiv (aF c (1 - e)) g) (fdiv (aF d (1 - e)) g) 0) (dm (ai (ai (ai (ai (some 0) (af (aF a (1 - e)) (aF a (1 - e)))) (af (aF b (1 - e)) (aF b (1 - e)))) (af (aF c (1 - e)) (aF c (1 - e)))) (af (aF d (1 - e)) (aF d (1 - e))))):=by
 obtain⟨a1,a2⟩:=hf 0 (Nat.le_of_ble_eq_true rfl);obtain⟨b1,b2⟩:=hf 1 (Nat.le_of_ble_eq_true rfl);obtain⟨c1,c2⟩:=hf 2 (Nat.le_of_ble_eq_true rfl);obtain⟨d1,d2⟩:=hf 3 (Nat.le_of_ble_eq_true rfl);have hk:aw .i64 (1 - e)=true:=aq (by omega) (by omega);unfold uJ NL;rw[rC hN,hall,Bool.not_true,cond_false];unfold Gl NK;simp only[dg];have hm:fmm true (fmm true (fmm true (fmm true (some 0) (cW a)) (cW b)) (cW c)) (cW d)=cQ [a,b,c,d] 4:=rfl;rw[hm,h0,cond_false,he,hk,Bool.true_and];refine(ik N a1 a2 (by omega) (by omega) _).trans ?_;rw[Bool.true_and];refine(ik N b1 b2 (by omega) (by omega) _).trans ?_;rw[Bool.true_and];refine(ik N c1 c2 (by omega) (by omega) _).trans ?_;rw[Bool.true_and];refine(ik N d1 d2 (by omega) (by omega) _).trans ?_;rfl
theorem ahE {N:Nat} (hN:1000<=N) {a b c d:Fl} (hall:bA [a,b,c,d]=true) (hf:vE [a,b,c,d]) {fr:Fl} {e:Int} (h0:feq (cQ [a,b,c,d] 4) (some 0)=false)
  (he:∀ κ:Fl->Int->Bool,kb N (cQ [a,b,c,d] 4) κ=κ fr e) (he1 : -1200<=e) (he2:e<=1200) (κ:K4) :
  vA N a b c d κ=(λg=>κ (fdiv (aF a (1 - e)) g) (fdiv (aF b (1 - e)) g) (fdiv (aF c (1 - e)) g) (fdiv (aF d (1 - e)) g) 0) (dm (ai (ai (ai (af (aF a (1 - e)) (aF a (1 - e))) (af (aF b (1 - e)) (aF b (1 - e)))) (af (aF c (1 - e)) (aF c (1 - e)))) (af (aF d (1 - e)) (aF d (1 - e))))):=by
 obtain⟨a1,a2⟩:=hf 0 (Nat.le_of_ble_eq_true rfl);obtain⟨b1,b2⟩:=hf 1 (Nat.le_of_ble_eq_true rfl);obtain⟨c1,c2⟩:=hf 2 (Nat.le_of_ble_eq_true rfl);obtain⟨d1,d2⟩:=hf 3 (Nat.le_of_ble_eq_true rfl);have hk:aw .i64 (1 - e)=true:=aq (by omega) (by omega);have hk2:0 - (e - 1)=1 - e:=by omega
 unfold vA zt;rw[nt hN,hall];unfold K0 Co;rw[Bool.not_true,cond_false];dsimp only;rw[show((0:Int) != 0)=false from rfl,cond_false];unfold DY Ct;refine(od hN (le4 a b c d) _).trans ?_;rw[show[a,b,c,d].length=4 from rfl,h0,cond_false,he];rw[al (aq (by omega) (by omega)),Bool.not_true,cond_false];simp only[hk2,hk,Bool.true_and];refine(aA (by rfl)).trans ?_;refine(aA (by rfl)).trans ?_;refine(jI hN a1 a2 (by omega) (by omega) _).trans ?_;generalize aF ([a,b,c,d].getD 0 none) (1 - e)=ya;refine(aA (by rfl)).trans ?_;refine(aA (by rfl)).trans ?_;refine(aA (by rfl)).trans ?_;refine(aA (by rfl)).trans ?_;refine(jI hN b1 b2 (by omega) (by omega) _).trans ?_;refine(aA (by rfl)).trans ?_;refine(aA (by rfl)).trans ?_;refine(aA (by rfl)).trans ?_;refine(aA (by rfl)).trans ?_;refine(jI hN c1 c2 (by omega) (by omega) _).trans ?_;refine(aA (by rfl)).trans ?_;refine(aA (by rfl)).trans ?_;refine(aA (by rfl)).trans ?_;refine(aA (by rfl)).trans ?_;refine(jI hN d1 d2 (by omega) (by omega) _).trans ?_;kernel_rfl
theorem TU {N:Nat} (hN:1000<=N) {a b c d:Fl} (ha:FW a) (hb:FW b) (hc:FW c) (hd:FW d):ab0 (uJ N a b c d) (vA N a b c d):=by
 cases hall:bA [a,b,c,d]with
 | false=>
  refine CU (n:=4) (λκ=>?_) (λκ=>?_)
  ·unfold uJ NL;rw[rC hN,hall]; rfl
  ·unfold vA zt;rw[nt hN,hall]; rfl
 | true=>
  have hf:=wg (FW4 ha hb hc hd) hall;cases h0:feq (cQ [a,b,c,d] 4) (some 0)with
  | true=>
   refine CU (n:=120) (λκ=>?_) (λκ=>?_)
   ·unfold uJ NL;rw[rC hN,hall,Bool.not_true,cond_false];unfold Gl NK;simp only[dg];have hm:fmm true (fmm true (fmm true (fmm true (some 0) (cW a)) (cW b)) (cW c)) (cW d)=cQ [a,b,c,d] 4:=rfl;rw[hm,h0,cond_true]
   ·unfold vA zt;rw[nt hN,hall];unfold K0 Co;rw[Bool.not_true,cond_false];dsimp only;rw[show((0:Int) != 0)=false from rfl,cond_false];unfold DY Ct;refine(od hN (le4 a b c d) _).trans ?_;rw[show[a,b,c,d].length=4 from rfl,h0]; rfl
  | false=>
   obtain⟨fr,e,he,he1,he2,hfin,j,hj,hge⟩:=O9 (N:=N) hf h0;have q:=X8 hN hall hf h0 he he1 he2;have r:=ahE hN hall hf h0 he he1 he2;have na:NN (af (aF a (1 - e)) (aF a (1 - e))):=qv (hf 0 (Nat.le_of_ble_eq_true rfl)).1 _;have nb:NN (af (aF b (1 - e)) (aF b (1 - e))):=qv (hf 1 (Nat.le_of_ble_eq_true rfl)).1 _;have nc:NN (af (aF c (1 - e)) (aF c (1 - e))):=qv (hf 2 (Nat.le_of_ble_eq_true rfl)).1 _;have nd:NN (af (aF d (1 - e)) (aF d (1 - e))):=qv (hf 3 (Nat.le_of_ble_eq_true rfl)).1 _;simp only[Cd na]at q;have hg:GE1 (ai (ai (ai (af (aF a (1 - e)) (aF a (1 - e))) (af (aF b (1 - e)) (aF b (1 - e)))) (af (aF c (1 - e)) (aF c (1 - e)))) (af (aF d (1 - e)) (aF d (1 - e)))):=by
    match j,hj,hge with
    | 0,_,h=>exact jP (jP (jP h nb) nc) nd
    | 1,_,h=>exact jP (jP (sm na h) nc) nd
    | 2,_,h=>exact jP (sm (v6 na nb) h) nd
    | 3,_,h=>exact sm (v6 (v6 na nb) nc) h
   have hv:=Pv hg;exact⟨_,_,_,_,0,⟨v7 (hfin 0 (Nat.le_of_ble_eq_true rfl)) hv,v7 (hfin 1 (Nat.le_of_ble_eq_true rfl)) hv,v7 (hfin 2 (Nat.le_of_ble_eq_true rfl)) hv,v7 (hfin 3 (Nat.le_of_ble_eq_true rfl)) hv⟩,q,r⟩
end Go.Proofs.YtadejnnigmcpdaaGreatDoor
