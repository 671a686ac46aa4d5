/- Laws in plain Lean. Conditions: none. -/
import Derived.Test.YtdinakfmablagaaGreatDoorGp
import Derived.Test.YtdinakfmablagaaGreatDoorBig
set_option linter.unusedVariables false
namespace Go.Proofs.YtdinakfmablagaaGreatDoor
open Go Go.Mach
theorem aa {a c:Bool} (h:a=true):(a&&c)=c:=by rw[h]; rfl
theorem am (z:Int):IntKind.wrap .u64 z=z%18446744073709551616:=by rfl
theorem dd (z:Int):IntKind.wrap .u32 z=z%4294967296:=by rfl
theorem jA (z:Int):Int.fdiv z (2 ^ 32)=z / 4294967296:=by rw[abC _ (by decide)]; rfl
theorem aH {σ:Type} {step:σ->(σ->Bool)->Bool} {s:σ} (C:Nat->σ) (n:Nat) {N:Nat} (h0:s=C 0) (hn:n<N) {out:Bool} (hs:∀ i,i<n -> ∀ K:σ->Bool,step (C i) K=K (C (i+1))) (hx:∀ K,step (C n) K=out):aj N step s=out:=by subst h0; exact bw C n hn hs hx
def bP (b:List Int):Nat->Nat
 | 0=>0
 | n+1=>if b.getD n 0=0 then bP b n else n+1
theorem mR (b:List Int) (n:Nat):bP b (n+1)=if b.getD n 0=0 then bP b n else n+1:=rfl
theorem jk (b:List Int):∀ n,bP b n<=n
 | 0=>aak _
 | n+1=>by unfold bP; split; exact Nat.le_succ_of_le (jk b n); exact aak _
theorem dU {b:List Int} {i:Nat} (h:b.length<=i):b.getD i 0=0:=by rw[List.getD_eq_getElem?_getD,List.getElem?_eq_none h]; rfl
theorem aT {m:List Int} (i:Nat):aE (m.take (i+1))=aE (m.take i)+4294967296 ^ i*(m.getD i 0).toNat:=by
 by_cases h:i<m.length
 ·exact yY h
 ·rw[dU (by omega),aav (by omega),aav (by omega)]; simp
theorem qf (b:List Int):∀ n,aE (b.take (bP b n))=aE (b.take n)
 | 0=>rfl
 | n+1=>by
  unfold bP;split
  ·rename_i h;rw[qf b n,aT,h]; simp
  ·rfl
theorem getLast?_take {b:List Int} {n:Nat} (h:n<b.length):(b.take (n+1)).getLast? = some (b.getD n 0):=by rw[abq h,List.getLast?_append,List.getD_eq_getElem?_getD,List.getElem?_eq_getElem h];simp
theorem qe (b:List Int):∀ n,n<=b.length -> ∀ x,(b.take (bP b n)).getLast? = some x->x ≠ 0
 | 0,_,x,h=>by simp[bP]at h
 | n+1,hn,x,h=>by
  unfold bP at h;split at h
  ·exact qe b n (by omega) x h
  ·rename_i h0;rw[getLast?_take (by omega)]at h;cases h; exact h0
theorem qZ {b:List Int} (hb:InW b):b.take (bP b b.length)=ai (aE b):=by have h1:=qf b b.length;rw[aaR]at h1;rw[<- h1,uX (hb.take _) (qe b b.length (aak _))]
theorem kp {N:Nat} (b:List Int) (hN:b.length<N) (hs:b.length<9223372036854775807) (k:Kz2):nR N b k=k (bP b b.length):=by
 (unfold nR; rw[ac]; unfold PF)
 have key:∀ n,n<=b.length -> ∀ M,n<M->aj M (tM N 0 b λm=>k m) n=k (bP b n):=by
  intro n;induction n with
  | zero=>
   intro _ M hM;cases M with
   | zero=>omega
   | succ M=>
    show tM N 0 b _ 0 _=_;simp[tM,bP]
  | succ n ih=>
   intro hn M hM;cases M with
   | zero=>omega
   | succ M=>
    show tM N 0 b _ (n+1) (aj M _)=_;have e:Int.toNat (((n+1:Nat):Int) - 1)=n:=by omega
    simp only[tM,e,aay,aci];rw[Z7 (by omega:((n+1:Nat):Int)>0),aa Z5,aa Z6,aa (Z7 (by omega)),aa Z5,aa (Z7 (by omega)),ih (by omega) M (by omega)];rw[mR];by_cases h0:b.getD n 0=0
    ·have:(b.getD n 0==0)=true:=by simpa using h0
     rw[this,if_pos h0]; rfl
    ·have:(b.getD n 0==0)=false:=by simpa using h0
     rw[this,if_neg h0]; rfl
 exact key b.length (aak _) N hN
theorem GJ {N:Nat} (m:List Int) (hm:InW m) (hN:m.length<N) (hs:m.length<9223372036854775807) (k:Kz5):kz N m k=k (ai (aE m)):=by
 (unfold kz; rw[ac]; unfold uP)
 have key:∀ n,n<9223372036854775807 -> ∀(l:List Int),l.length=n->InW l -> ∀ M,n<M->aj M (fI N λVd=>k Vd) l=k (ai (aE l)):=by
  intro n;induction n with
  | zero=>
   intro _ l hl _ M hM;cases M with
   | zero=>omega
   | succ M=>
    have:l=[]:=List.length_eq_zero_iff.1 hl;subst this;show fI N _ [] _=_;simp[fI,aE,bb]
  | succ n ih=>
   intro hn l hl hw M hM;cases M with
   | zero=>omega
   | succ M=>
    show fI N _ l (aj M _)=_;have e:Int.toNat ((l.length:Int) - 1)=n:=by omega
    simp only[fI,e,abF];rw[Z7 (by omega:(l.length:Int)>0),aa Z5,aa Z6,aa Z5,aa (Z7 (by omega)),ih (by omega) (l.take n) (by simp; omega) (hw.take n) M (by omega)];have e2:=aT (m:=l) n;rw[aav (by omega)]at e2;by_cases h0:l.getD n 0=0
    ·have:(l.getD n 0==0)=true:=by simpa using h0
     rw[this];rw[h0]at e2;simp at e2;rw[e2]; rfl
    ·have:(l.getD n 0==0)=false:=by simpa using h0
     rw[this,uX hw (λx hx=>by have:=getLast?_take (b:=l) (n:=n) (by omega);rw[aav (by omega)]at this;rw[this]at hx; cases hx; exact h0)]
     rfl
 exact key m.length hs m rfl hm N hN
theorem dj {N:Nat} (b:List Int) (hb:InW b) (hN:b.length<N) (hs:b.length<9223372036854775807) (k:Kz5) :
  (nR N b λl=>(decide (0+l<=b.length))&&k (List.take l (List.drop 0 b)))=k (ai (aE b)):=by
 rw[kp b hN hs,abF,qZ hb];have:=jk b b.length;rw[Z7 (by omega)]; rfl
def fo (N:Nat) (l:List Int):Prop:=l.length+2<N/\l.length<=17592186044416
theorem dT (T A i:Nat):(T+4294967296 ^ i*A) / 4294967296 ^ i=T / 4294967296 ^ i+A:=aa5 _ _ (abg (by decide))
theorem FE (m:List Int) (i:Nat):aE m=aE (m.take i)+4294967296 ^ (m.take i).length*aE (m.drop i):=by rw[<- qx,acP]
theorem bX (m:List Int) (i:Nat):∃ R,aE m=aE (m.take i)+4294967296 ^ i*R:=by
 by_cases h:i<=m.length
 ·refine⟨aE (m.drop i),?_⟩;have:=FE m i
  rwa [aaO,abm h]at this
 ·exact⟨0,by rw[aav (by omega)]; simp⟩
theorem bA {m:List Int} (h:InW m) (i:Nat):aE (m.take i)<4294967296 ^ i:=by
 have h1:=eI (h.take i);have h2:(m.take i).length<=i:=by simp; omega
 exact aar h1 (aan (by decide) h2)
theorem kW {S T R i:Nat} (h:S=T+4294967296 ^ (i+1)*R):S / 4294967296 ^ i%4294967296=T / 4294967296 ^ i%4294967296:=by rw[h,aaj,aah,dT,abp]
theorem AR {N:Nat} (a b:List Int) (ha:InW a) (hb:InW b) (hl:b.length<=a.length) (hN:fo N a) (k:Kz5) :
  aj N (gb N a b λcarry out=>(inR (a.length:Nat) out.length)&&((decide ((Int.toNat (a.length:Nat))<out.length)) &&
   (nR N (List.set out (Int.toNat (a.length:Nat)) (IntKind.wrap .u32 carry)) λVE=>(decide ((0+VE)<=(List.length (List.set out (Int.toNat (a.length:Nat)) (IntKind.wrap .u32 carry)))))&&k (List.take VE (List.drop 0 (List.set out (Int.toNat (a.length:Nat)) (IntKind.wrap .u32 carry)))))))
   (0,0,List.replicate (a.length+1) 0)=k (ai (aE a+aE b)):=by
 obtain⟨hN1,hN2⟩:=hN
 let S:=aE a+aE b
 let T:=λi=>aE (a.take i)+aE (b.take i)
 refine aH (λi=>(((T i / 4294967296 ^ i:Nat):Int),(i:Int),dl S i++List.replicate (a.length+1 - i) 0)) a.length (by simp[T,aE,dl]) (by omega) (λi hi K=>?_) (λK=>?_)
 ·have hx:=ha.at (i:=i);have hy:=hb.at (i:=i);have hT:T (i+1)=T i+4294967296 ^ i*((a.getD i 0).toNat+(b.getD i 0).toNat):=by simp only[T,aT,aap]; omega
  have hq:T (i+1) / 4294967296 ^ i=T i / 4294967296 ^ i+((a.getD i 0).toNat+(b.getD i 0).toNat):=by rw[hT,dT]
  have hc:T i / 4294967296 ^ i<=1:=by
   have h1:=bA ha i;have h2:=bA hb i;have h3:T i<4294967296 ^ i*2:=by simp only[T]; omega
   have:=(aag (abg (n:=i) (by decide:0<4294967296))).2 (by rw[aab]; exact h3:T i<2*4294967296 ^ i);omega
  have hdiv:T (i+1) / 4294967296 ^ (i+1)=T (i+1) / 4294967296 ^ i / 4294967296:=by rw[aaj,aaf]
  have hdig:S / 4294967296 ^ i%4294967296=T (i+1) / 4294967296 ^ i%4294967296:=by obtain⟨R1,h1⟩:=bX a (i+1);obtain⟨R2,h2⟩:=bX b (i+1);refine kW (R:=R1+R2) ?_;simp only[S,T];rw[aap]; omega
  have hset:=yc S i (a.length+1) (by omega);have hlen:(dl S i++List.replicate (a.length+1 - i) 0).length=a.length+1:=by simp[al]; omega
  generalize hq':T i / 4294967296 ^ i=q at *;generalize hx':a.getD i 0=x at *;generalize hy':b.getD i 0=y at *;simp only[gb,aac];rw[Z7 (by omega:(i:Int)<a.length),Z_,hx',hy',aa Z6,hlen];have hstep:∀ s:Int,s=((q+(x.toNat+y.toNat):Nat):Int)->K ((Int.fdiv s (2 ^ 32)),((i:Int)+1),(List.set (dl S i++List.replicate (a.length+1 - i) 0) i (IntKind.wrap .u32 s)))=K (((T (i+1) / 4294967296 ^ (i+1):Nat):Int),((i+1:Nat):Int),dl S (i+1)++List.replicate (a.length+1 - (i+1)) 0):=by
   intro s hs;have e1:Int.fdiv s (2 ^ 32)=((T (i+1) / 4294967296 ^ (i+1):Nat):Int):=by rw[jA,hdiv,hq,hs]; omega
   have e2:IntKind.wrap .u32 s=((S / 4294967296 ^ i%4294967296:Nat):Int):=by rw[dd,hdig,hq,hs]; omega
   rw[e1,e2,hset]; rfl
  by_cases hib:i<b.length
  ·rw[Z7 (by omega:(i:Int)<b.length),Z_,aa Z6,aa Z6,aa (Z7 (by omega)),aa Z5];exact hstep _ (by simp only[am]; omega)
  ·rw[Z8 (by omega:¬(i:Int)<b.length),Z9,aa Z6,aa (Z7 (by omega)),aa Z5];have hy0:y=0:=by rw[<- hy']; exact dU (by omega)
   subst hy0;exact hstep _ (by simp only[am]; omega)
 ·simp only[gb];rw[Z8 (by omega:¬(a.length:Int)<a.length),Z9];have hT:T a.length=S:=by simp only[T,S]; rw[aaR,aav hl]
  have hS:S<4294967296 ^ (a.length+1):=by have h1:=eI ha;have h2:=eI hb;have h3:4294967296 ^ b.length<=4294967296 ^ a.length:=aan (by decide) hl;rw[aaj];simp only[S]; omega
  have hlen:(dl S a.length++List.replicate (a.length+1 - a.length) 0).length=a.length+1:=by simp[al]
  have e2:IntKind.wrap .u32 ((T a.length / 4294967296 ^ a.length:Nat):Int)=((S / 4294967296 ^ a.length%4294967296:Nat):Int):=by rw[dd,hT]; omega
  have hset:=yc S a.length (a.length+1) (by omega);rw[e2,aac,hset,hlen,aa Z6,aa (Z7 (by omega)),aaH,aaL,aaI,
   dj _ (iD S _) (by rw[al]; omega) (by rw[al]; omega),ou hS]
theorem Ls {N:Nat} (a b:List Int) (ha:InW a) (hb:InW b) (hNa:fo N a) (hNb:fo N b) (k:Kz5):tE N a b k=k (ai (aE a+aE b)):=by
 (unfold tE; rw[ac]; unfold sC)
 have h1:=hNa.2;have h2:=hNb.2;by_cases h:a.length<b.length
 ·rw[Z7 (by omega:(a.length:Int)<b.length),Z_,aa Z5,aa (bZ (by omega) (by omega) (by omega) (by omega))];have e:Int.toNat ((b.length:Int)+1)=b.length+1:=by omega
  rw[e,AR b a hb ha (by omega) hNb k,ab7]
 ·rw[Z8 (by omega:¬(a.length:Int)<b.length),Z9,aa Z5,aa (bZ (by omega) (by omega) (by omega) (by omega))];have e:Int.toNat ((a.length:Int)+1)=a.length+1:=by omega
  rw[e,AR a b ha hb (by omega) hNa k]
theorem aY (i:Nat):0<4294967296 ^ i:=abg (by decide)
theorem yw {D e P:Nat} {z:Int} (h:(D:Int)=(e:Int)+(P:Int)*z) (he:e<P):((D / P:Nat):Int)=z:=by
 have hP:(P:Int) ≠ 0:=by omega
 rw[Int.natCast_ediv,h,Int.add_mul_ediv_left _ _ hP,<- Int.natCast_ediv,aaC he];simp
theorem mO (P A B x y:Nat) (hA:A<P) (hB:B<P):(if A+P*x<B+P*y then 1 else 0)=if x<y+(if A<B then 1 else 0)then 1 else(0:Nat):=by
 by_cases hxy:x<y
 ·have:P*(x+1)<=P*y:=aae P hxy;rw[aap]at this;rw[if_pos (by omega),if_pos (by omega)]
 ·by_cases hyx:y<x
  ·have:P*(y+1)<=P*x:=aae P hyx;rw[aap]at this;rw[if_neg (by omega),if_neg (by split <;> omega)]
  ·have:x=y:=by omega
   subst this;by_cases hAB:A<B
   ·rw[if_pos (by omega),if_pos hAB,if_pos (by omega)]
   ·rw[if_neg (by omega),if_neg hAB,if_neg (by omega)]
theorem CR {P A B x y o R1 R2 D a b:Nat} (hA:A<P) (hB:B<P) (ho:o=if A<B then 1 else 0) (h1:a=A+P*x+P*4294967296*R1) (h2:b=B+P*y+P*4294967296*R2) (hD:(D:Int)=(a:Int) - (b:Int)) :
  ((D / P:Nat):Int)=(x:Int) - (y:Int) - (o:Int)+4294967296*((R1:Int) - (R2:Int)):=by
 have he:∃ e:Nat,e<P/\(e:Int)=(A:Int) - (B:Int)+(P:Int)*(o:Int):=by
  rw[ho];split
  ·exact⟨A+P - B,by omega,by omega⟩
  ·exact⟨A - B,by omega,by omega⟩
 obtain⟨e,he1,he2⟩:=he;refine yw (e:=e) ?_ he1;have e1:(a:Int)=A+(P:Int)*x+4294967296*((P:Int)*R1):=by rw[h1,aah,aaD]; simp
 have e2:(b:Int)=B+(P:Int)*y+4294967296*((P:Int)*R2):=by rw[h2,aah,aaD]; simp
 have e3:(P:Int)*((x:Int) - (y:Int) - (o:Int)+4294967296*((R1:Int) - (R2:Int)))=(P:Int)*x - (P:Int)*y - (P:Int)*o+(4294967296*((P:Int)*R1) - 4294967296*((P:Int)*R2)):=by rw[Int.mul_add,acy,acy,Int.mul_left_comm,acy,acy]
 rw[hD,e1,e2,e3,he2];omega
theorem vp {N:Nat} (a b:List Int) (ha:InW a) (hb:InW b) (hle:aE b<=aE a) (hN:fo N a) (k:Kz5):ly N a b k=k (ai (aE a - aE b)):=by
 obtain⟨hN1,hN2⟩:=hN
 (unfold ly; rw[ac]; unfold pQ)
 rw[aa (bZ (by omega) (by omega) (by omega) (by omega)),aac]
 let D:=aE a - aE b
 let bo:=λi=>if aE (a.take i)<aE (b.take i)then(1:Nat)else 0
 refine aH (λi=>(((bo i:Nat):Int),(i:Int),dl D i++List.replicate (a.length - i) 0)) a.length (by simp[bo,aE,dl]) (by omega) (λi hi K=>?_) (λK=>?_)
 ·have hx:=ha.at (i:=i);have hy:=hb.at (i:=i);have hA:=aT (m:=a) i;have hB:=aT (m:=b) i;have hAl:=bA ha i;have hBl:=bA hb i;have hset:=yc D i a.length (by omega);have hl:(dl D i++List.replicate (a.length - i) 0).length=a.length:=by simp[al]; omega
  obtain⟨R1,h1⟩:=bX a (i+1);obtain⟨R2,h2⟩:=bX b (i+1);have hD:(D:Int)=(aE a:Int) - (aE b:Int):=by simp only[D]; omega
  have hP:=aY i;have hPs:4294967296 ^ (i+1)=4294967296 ^ i*4294967296:=aaj ..;have hbo:bo i<=1:=by simp only[bo]; split <;> omega
  have hbs:bo (i+1)=if (a.getD i 0).toNat<(b.getD i 0).toNat+bo i then 1 else 0:=by simp only[bo,hA,hB];exact mO _ _ _ _ _ hAl hBl
  have hq:((D / 4294967296 ^ i:Nat):Int)=((a.getD i 0).toNat:Int) - ((b.getD i 0).toNat:Int) - (bo i:Int)+4294967296*((R1:Int) - (R2:Int)):=by rw[hA,hPs]at h1;rw[hB,hPs]at h2;exact CR hAl hBl rfl h1 h2 hD
  have hdig:((D / 4294967296 ^ i%4294967296:Nat):Int)=(((a.getD i 0).toNat:Int) - ((b.getD i 0).toNat:Int) - (bo i:Int))%4294967296:=by rw[Int.natCast_emod,hq];exact Int.add_mul_emod_self_left _ _ _
  generalize hx':a.getD i 0=x at *;generalize hy':b.getD i 0=y at *;generalize bo i=o at *;generalize bo (i+1)=o' at *;simp only[j7,aac];have hy0:¬ i<b.length->y=0:=λh=>by rw[<- hy']; exact dU (by omega)
  have fin:∀(v w:Int),v=(o':Int)->w%4294967296=((D / 4294967296 ^ i%4294967296:Nat):Int)->K (v,(i:Int)+1,List.set (dl D i++List.replicate (a.length - i) 0) i (IntKind.wrap .u32 w))=K ((o':Int),((i+1:Nat):Int),dl D (i+1)++List.replicate (a.length - (i+1)) 0):=by intro v w hv hw;rw[hv,dd,hw,hset]; rfl
  simp only[hx',hy',hl];rw[Z7 (by omega:(i:Int)<a.length),Z_];by_cases hib:i<b.length
  ·rw[Z7 (by omega:(i:Int)<b.length),Z_,aa Z6,aa Z6];by_cases hlt:x.toNat<y.toNat+o
   ·rw[Z7 (by simp only[am]; omega),Z_,aa Z6,aa (Z7 (by omega)),aa Z5];rw[if_pos hlt]at hbs;exact fin _ _ (by omega) (by rw[hdig]; simp only[am]; omega)
   ·rw[Z8 (by simp only[am]; omega),Z9,aa Z6,aa (Z7 (by omega)),aa Z5];rw[if_neg hlt]at hbs;exact fin _ _ (by omega) (by rw[hdig]; simp only[am]; omega)
  ·have hy1:=hy0 hib;rw[Z8 (by omega:¬(i:Int)<b.length),Z9,aa Z6];by_cases hlt:x.toNat<y.toNat+o
   ·rw[Z7 (by simp only[am]; omega),Z_,aa Z6,aa (Z7 (by omega)),aa Z5];rw[if_pos hlt]at hbs;exact fin _ _ (by omega) (by rw[hdig]; simp only[am]; omega)
   ·rw[Z8 (by simp only[am]; omega),Z9,aa Z6,aa (Z7 (by omega)),aa Z5];rw[if_neg hlt]at hbs;exact fin _ _ (by omega) (by rw[hdig]; simp only[am]; omega)
 ·simp only[j7];rw[Z8 (by omega:¬(a.length:Int)<a.length),Z9,aaH,aaL,aaI];have hS:D<4294967296 ^ a.length:=by have:=eI ha; simp only[D]; omega
  rw[dj _ (iD D _) (by rw[al]; omega) (by rw[al]; omega),ou hS]
theorem cw (a c s:Nat) (ha:a<2 ^ s) (hlt:2 ^ s*c+a<18446744073709551616):aB .or .u64 (a:Int) ((2 ^ s*c:Nat):Int)=((2 ^ s*c+a:Nat):Int):=by
 unfold aB pp;simp only[aaW];have e:((BitVec.ofInt (IntKind.bits .u64) (a:Int)) ||| (BitVec.ofInt (IntKind.bits .u64) ((2 ^ s*c:Nat):Int))).toNat=2 ^ s*c+a:=by
  show((BitVec.ofInt 64 (a:Int)) ||| (BitVec.ofInt 64 ((2 ^ s*c:Nat):Int))).toNat=_;have h64:(2:Nat) ^ 64=18446744073709551616:=by decide
  rw[BitVec.toNat_or,abf,abf,abn,abn,aai (by omega),aai (by omega),Nat.or_comm,<- ac6 ha]
 rw[e,uJ _ hlt]
theorem EB (n:Nat) (h:n<4294967296):IntKind.wrap .u32 (n:Int)=n:=by rw[dd]; omega
theorem pq (a c s:Nat) (ha:a<2 ^ s) (hlt:2 ^ s*c+a<4294967296):aB .or .u32 (a:Int) ((2 ^ s*c:Nat):Int)=((2 ^ s*c+a:Nat):Int):=by
 unfold aB pp;simp only[aaW];have e:((BitVec.ofInt (IntKind.bits .u32) (a:Int)) ||| (BitVec.ofInt (IntKind.bits .u32) ((2 ^ s*c:Nat):Int))).toNat=2 ^ s*c+a:=by
  show((BitVec.ofInt 32 (a:Int)) ||| (BitVec.ofInt 32 ((2 ^ s*c:Nat):Int))).toNat=_;have h32:(2:Nat) ^ 32=4294967296:=by decide
  rw[BitVec.toNat_or,abf,abf,abn,abn,aai (by omega),aai (by omega),Nat.or_comm,<- ac6 ha]
 rw[e,EB _ hlt]
def dx (x y:Nat):Int:=if x<y then -1 else if x=y then 0 else 1
theorem Kp {P A B x y:Nat} (hA:A<P) (h:x<y):dx (A+P*x) (B+P*y) = -1:=by have:P*(x+1)<=P*y:=aae P h;rw[aap]at this;unfold dx;rw[if_pos (by omega)]
theorem Ko {P A B x y:Nat} (hB:B<P) (h:y<x):dx (A+P*x) (B+P*y)=1:=by have:P*(y+1)<=P*x:=aae P h;rw[aap]at this;unfold dx;rw[if_neg (by omega),if_neg (by omega)]
theorem CF {P A B x:Nat}:dx (A+P*x) (B+P*x)=dx A B:=by
 unfold dx;by_cases h3:A<B
 ·rw[if_pos h3,if_pos (by omega)]
 ·by_cases h4:A=B
  ·subst h4; simp
  ·rw[if_neg h3,if_neg h4,if_neg (by omega),if_neg (by omega)]
theorem Bh {N:Nat} (a b:List Int) (ha:InW a) (hb:InW b) (hl:a.length=b.length) (hs:a.length<9223372036854775807) (k:Kz1) :
  ∀ n,n<=a.length -> ∀ M,n<M->aj M (tH N a b (λt4=>k t4) (k 0)) ((n:Int) - 1)=k (dx (aE (a.take n)) (aE (b.take n))):=by
 intro n;induction n with
 | zero=>
  intro _ M hM;cases M with
  | zero=>omega
  | succ M=>
   show tH N a b _ _ ((0:Nat) - 1:Int) _=_;simp[tH,dx,aE]
 | succ n ih=>
  intro hn M hM;cases M with
  | zero=>omega
  | succ M=>
   show tH N a b _ _ (((n+1:Nat):Int) - 1) (aj M _)=_;have e:(((n+1:Nat):Int) - 1)=(n:Int):=by omega
   have hx:=ha.at (i:=n);have hy:=hb.at (i:=n);have hA:=aT (m:=a) n;have hB:=aT (m:=b) n;have hAl:=bA ha n;have hBl:=bA hb n;rw[e];simp only[tH,aac];rw[hA,hB,Z7 (by omega:(n:Int)>=0),Z_,aa Z6,aa Z6,aa Z6,aa Z6,aa Z5,ih (by omega) M (by omega)];by_cases h1:a.getD n 0<b.getD n 0
   ·rw[Z7 h1,Z_,Kp hAl (by omega)]
   ·rw[Z8 h1,Z9];by_cases h2:a.getD n 0>b.getD n 0
    ·rw[Z7 h2,Z_,Ko hBl (by omega)]
    ·rw[Z8 h2,Z9];have:a.getD n 0=b.getD n 0:=by omega
     rw[this,CF]
theorem bT {x y:Nat} (h:x<=y):(ai x).length<=(ai y).length:=by
 induction y using Nat.strongRecOn generalizing x with
 | ind y ih=>
  by_cases hx:x=0
  ·subst hx; rw[bb]; simp
  ·rw[ci hx,ci (by omega:y ≠ 0)];simp only[aaK];have:=ih (y / 4294967296) (by omega) (x:=x / 4294967296) (acr h);omega
theorem jr {N:Nat} (x y:Nat) (hx:fo N (ai x)) (hy:fo N (ai y)) (k:Kz1):D_ N (ai x) (ai y) k=k (dx x y):=by
 (unfold D_; rw[ac]; unfold P8)
 obtain⟨x1,x2⟩:=hx;obtain⟨y1,y2⟩:=hy;by_cases h:(ai x).length=(ai y).length
 ·have e:(((ai x).length:Int) != (ai y).length)=false:=by rw[h]; simp
  rw[e,Z9,aa Z5,Bh (ai x) (ai y) (bh x) (bh y) h (by omega) k _ (aak _) N (by omega),aaR,h,aaR,aM,aM]
 ·have e:(((ai x).length:Int) != (ai y).length)=true:=by simp; omega
  rw[e,Z_];by_cases h1:(ai x).length<(ai y).length
  ·rw[Z7 (by omega),Z_];have:x<y:=by
    rcases aa0 x y with h2 | h2
    ·exact h2
    ·have:=bT h2; omega
   unfold dx; rw[if_pos this]
  ·rw[Z8 (by omega),Z9];have:¬ x<=y:=λh2=>by have:=bT h2; omega
   unfold dx; rw[if_neg (by omega),if_neg (by omega)]
def bl (n:Nat):Nat:=if n=0 then 0 else n.log2+1
theorem kU {n:Nat} (j:Nat) (h:2 ^ j<=n):bl n=j+bl (n / 2 ^ j):=by
 have hp:0<2 ^ j:=aam j;have h0:n ≠ 0:=by omega
 have h1:n / 2 ^ j ≠ 0:=by have:=acz h hp;omega
 unfold bl;rw[if_neg h0,if_neg h1];have hj:j<=n.log2:=(Nat.le_log2 h0).2 h;have:(n / 2 ^ j).log2=n.log2 - j:=by
  rw[Nat.log2_eq_iff h1];have h2:=Nat.log2_self_le h0;have h3:n<2 ^ (n.log2+1):=Nat.lt_log2_self;constructor
  ·rw[abH hp,<- aal];rw[show n.log2 - j+j=n.log2 by omega]; exact h2
  ·rw[aag hp,<- aal];rw[show n.log2 - j+1+j=n.log2+1 by omega]; exact h3
 omega
theorem Sc:∀ i:Fin 256,az.getD i.val 0=(bl i.val:Int):=by decide +kernel
theorem MB {i:Nat} (h:i<256):az.getD i 0=(bl i:Int):=Sc ⟨i,h⟩
theorem Cu {n:Nat} (h:n<256):bl n<=8:=by
 unfold bl;split
 ·omega
 ·rename_i h0;have:=(Nat.log2_lt h0).2 (by simpa using h:n<2 ^ 8);omega
theorem Pm (z:Int):IntKind.wrap .u8 z=z%256:=by rfl
theorem OW (z:Int):Int.fdiv z (2 ^ 8)=z / 256:=by rw[abC _ (by decide)]; rfl
theorem KN (z:Int):Int.fdiv z (2 ^ 16)=z / 65536:=by rw[abC _ (by decide)]; rfl
theorem Aw (N:Nat) (x:Nat) (h:x<4294967296) (k:Kz1):G_ N (x:Int) k=k (bl x:Int):=by
 (unfold G_; rw[ac]; unfold JF)
 simp only[OW,KN,Pm];have key:∀(z:Int) (m:Nat),z=(m:Int)->m<256 -> ∀ c:Nat,c<=32->((inR z 256)&&((af .i64 (List.getD az (Int.toNat z) 0))&&((af .i64 ((c:Int)+(List.getD az (Int.toNat z) 0)))&&k ((c:Int)+List.getD az (Int.toNat z) 0))))=k ((c+bl m:Nat):Int):=by intro z m hz hm c hc;subst hz;have:=Cu hm;rw[aac,MB hm,aa Z6,aa Z5,aa Z5];rfl
 by_cases h16:65536<=x
 ·rw[Z7 (by omega:(x:Int)>=65536),Z_];have e16:=kU (n:=x) 16 (by simpa using h16);have p16:(2:Nat) ^ 16=65536:=by decide
  have p8:(2:Nat) ^ 8=256:=by decide
  rw[p16]at e16;by_cases h8:256<=x / 65536
  ·rw[Z7 (by omega:(x:Int) / 65536>=256),Z_];have e8:=kU (n:=x / 65536) 8 (by simpa using h8);rw[p8]at e8;have:=key ((x:Int) / 65536 / 256%256) (x / 65536 / 256) (by omega) (by omega) 24 (by omega);rw[show((24:Nat):Int)=24 from rfl]at this;rw[this]; congr 2; omega
  ·rw[Z8 (by omega:¬(x:Int) / 65536>=256),Z9];have:=key ((x:Int) / 65536%256) (x / 65536) (by omega) (by omega) 16 (by omega);rw[show((16:Nat):Int)=16 from rfl]at this;rw[this]; congr 2; omega
 ·rw[Z8 (by omega:¬(x:Int)>=65536),Z9];by_cases h8:256<=x
  ·rw[Z7 (by omega:(x:Int)>=256),Z_];have e8:=kU (n:=x) 8 (by simpa using h8);rw[show(2:Nat) ^ 8=256 by decide]at e8;have:=key ((x:Int) / 256%256) (x / 256) (by omega) (by omega) 8 (by omega);rw[show((8:Nat):Int)=8 from rfl]at this;rw[this]; congr 2; omega
  ·rw[Z8 (by omega:¬(x:Int)>=256),Z9];have:=key ((x:Int)%256) x (by omega) (by omega) 0 (by omega);rw[show((0:Nat):Int)=0 from rfl]at this;rw[this]; congr 2; omega
theorem qg:∀ n,n ≠ 0->bl n=32*((ai n).length - 1)+bl ((ai n).getD ((ai n).length - 1) 0).toNat/\0<(ai n).length:=by
  intro n;induction n using Nat.strongRecOn with
  | ind n ih=>
    intro h;rw[ci h];by_cases h1:n / 4294967296=0
    · rw[h1,bb]
      have:n%4294967296=n:=aai (by omega);simp[this]
    · obtain⟨i1,i2⟩:=ih (n / 4294967296) (by omega) h1
      have e:=kU (n:=n) 32 (by have:(2:Nat) ^ 32=4294967296:=(by decide); omega);rw[show(2:Nat) ^ 32=4294967296 by decide]at e;refine⟨?_,by simp⟩;have e2:(((n%4294967296:Nat):Int)::ai (n / 4294967296)).getD ((((n%4294967296:Nat):Int)::ai (n / 4294967296)).length - 1) 0=(ai (n / 4294967296)).getD ((ai (n / 4294967296)).length - 1) 0:=by
        simp only[aaK,acC];generalize ai (n / 4294967296)=l at i2 ⊢;cases l with
        | nil=>simp at i2
        | cons y l=>simp
      rw[e2,e,i1];simp only[aaK];omega
theorem yE {N:Nat} (g:Bool) (n:Nat) (hs:fo N (ai n)) (k:Kz1):I2 N g (ai n) k=k (bl n:Int):=by
  (unfold I2; rw[ac]; unfold PX)
  obtain⟨s1,s2⟩:=hs;by_cases h:n=0
  · subst h; rw[bb]; rfl
  · obtain⟨e1,e2⟩:=qg n h
    have e0:(((ai n).length:Int)==0)=false:=by simp; intro h'; rw[h']at e2; simp at e2
    have e3:Int.toNat (((ai n).length:Int) - 1)=(ai n).length - 1:=by omega
    have hw:=(bh n).at (i:=(ai n).length - 1);have hb:bl ((ai n).getD ((ai n).length - 1) 0).toNat<=32:=by
      unfold bl; split
      · omega
      · rename_i h0
        have:=(Nat.log2_lt h0).2 (by have:(2:Nat) ^ 32=4294967296:=(by decide); omega:((ai n).getD ((ai n).length - 1) 0).toNat<2 ^ 32);omega
    have e4:(ai n).getD ((ai n).length - 1) 0=((((ai n).getD ((ai n).length - 1) 0).toNat:Nat):Int):=by omega
    rw[e0,Z9,aa Z5,aa Z5,aa Z5,aa Z6,e3,e4,Aw N _ (by omega),aa Z5];congr 1; omega
theorem sP:∀(w X:Nat),dl (4294967296 ^ w*X) w=List.replicate w 0:=by
 intro w;have key:∀ n,n<=w -> ∀ X,dl (4294967296 ^ w*X) n=List.replicate n 0:=by
  intro n;induction n with
  | zero=>intro _ X; rfl
  | succ n ih=>
   intro hn X;rw[dl,ih (by omega),abM];have e:4294967296 ^ w*X=4294967296 ^ n*(4294967296*(4294967296 ^ (w - n - 1)*X)):=by rw[<- aah,<- aah,<- aaj,<- aal];congr 2; omega
   rw[e,aaJ _ (aY n),adl];rfl
 exact key w (aak _)
theorem uy (n:Nat):2 ^ n=4294967296 ^ (n / 32)*2 ^ (n%32):=by
 have:(4294967296:Nat)=2 ^ 32:=by decide
 rw[this,<- ac7,<- aal];congr 1; omega
theorem bg {α:Type} (xs:List α) (y:α) (ys:List α) (z:α) (n:Nat) (h:n=xs.length):(xs++y::ys).set n z=xs++z::ys:=by subst h; rw[acl _ _ (aak _),aaH]; rfl
theorem bU {xs:List Int} {y:Int} {ys:List Int} {n:Nat} (h:n=xs.length):(xs++y::ys).getD n 0=y:=by subst h; rw[List.getD_eq_getElem?_getD,List.getElem?_append_right (aak _),aaH]; rfl
theorem Lo {N:Nat} (m:List Int) (hm:InW m) (n:Nat) (hn:n<4294967296) (hN:m.length+n / 32+4<N) (hs:m.length<=1099511627776) (k:Kz5):tD N m n k=k (ai (aE m*2 ^ n)):=by
 (unfold tD; rw[ac]; unfold sB)
 by_cases h0:m.length=0
 ·have:m=[]:=List.length_eq_zero_iff.1 h0;subst this;simp[aE,bb]
 ·have e0:((m.length:Int)==0)=false:=by simp; intro h; subst h; simp at h0
  have ew:IntKind.wrap .u64 (Int.tdiv (n:Int) 32)=((n / 32:Nat):Int):=by rw[am,abb (by omega)]; omega
  have es:Int.tmod (n:Int) 32=((n%32:Nat):Int):=by rw[aa3 (by omega)]; rfl
  rw[e0,Z9,ew,es];generalize hw:n / 32=w at *;generalize hsh:n%32=s at *;have hs32:s<32:=by omega
  have hp2:2 ^ n=4294967296 ^ w*2 ^ s:=by rw[uy,hw,hsh]
  have hs0:0<2 ^ s:=aam s;have hs1:2 ^ s*2 ^ (32 - s)=4294967296:=by rw[<- aal,show s+(32 - s)=32 by omega]
  have hs2:2 ^ s<=2147483648:=by have:2 ^ s<=2 ^ 31:=aan (by decide) (by omega);simpa using this
  have elen:Int.toNat (((w:Nat):Int)+(m.length:Int)+1)=w+m.length+1:=by omega
  rw[aa Z5,aa Z5,aa Z5,aa (bZ (by omega) (by omega) (by omega) (by omega)),elen]
  let V:=aE m*2 ^ n
  let X:=aE m*2 ^ s
  have hVX:V=4294967296 ^ w*X:=by simp only[V,X]; rw[hp2,aaD]
  let T:=λi=>aE (m.take i)*2 ^ s
  let c:=λi=>T i / 4294967296 ^ i
  refine aH (λi=>((i:Int),dl V (w+i)++((c i:Nat):Int)::List.replicate (m.length - i) 0)) m.length ?_ (by omega) (λi hi K=>?_) (λK=>?_)
  ·congr 1;show List.replicate (w+m.length+1) (0:Int)=dl V w++((c 0:Nat):Int)::List.replicate m.length 0;rw[hVX,sP];have hc0:c 0=0:=by simp[c,T,aE]
   rw[hc0];have:w+m.length+1=w+(m.length+1):=by omega
   rw[this,<- abS,aaT]; rfl
  ·have hx:=hm.at (i:=i);have hT:T (i+1)=T i+4294967296 ^ i*((m.getD i 0).toNat*2 ^ s):=by simp only[T,aT,aaz,aah]
   have hq:T (i+1) / 4294967296 ^ i=c i+(m.getD i 0).toNat*2 ^ s:=by rw[hT,dT]
   have hci:c i<2 ^ s:=by simp only[c,T];rw[aag (aY i),aab];exact abh (bA hm i) hs0
   have hc1:c (i+1)=(c i+(m.getD i 0).toNat*2 ^ s) / 4294967296:=by rw[<- hq]; simp only[c]; rw[aaj,aaf]
   have hdig:V / 4294967296 ^ (w+i)%4294967296=(c i+(m.getD i 0).toNat*2 ^ s)%4294967296:=by rw[<- hq,hVX,aal,<- aaf,aaJ _ (aY w)];obtain⟨R,hR⟩:=bX m (i+1);refine kW (R:=R*2 ^ s) ?_;simp only[X,T];rw[hR,aaz,aah]
   have hrep:List.replicate (m.length - i) (0:Int)=0::List.replicate (m.length - (i+1)) 0:=by rw[show m.length - i=(m.length - (i+1))+1 by omega,aaT]
   have hdl:=al V (w+i);have ei:Int.toNat ((w:Int)+(i:Int))=w+i:=by omega
   have ei1:Int.toNat ((w:Int)+(i:Int)+1)=w+i+1:=by omega
   have emin:min s 64=s:=by omega
   simp only[eB,aac,ei,ei1,emin];rw[hrep,bU hdl.symm,bg _ _ _ _ _ hdl.symm];have et:IntKind.wrap .u64 (IntKind.wrap .u64 (m.getD i 0)*2 ^ s)=(((m.getD i 0).toNat*2 ^ s:Nat):Int):=by
    have hxs:(m.getD i 0).toNat*2 ^ s<4294967296*2147483648:=aaS (by omega) hs2 (by decide);have e1:IntKind.wrap .u64 (m.getD i 0)=(((m.getD i 0).toNat:Nat):Int):=by rw[am]; omega
    have e2:(((m.getD i 0).toNat:Nat):Int)*2 ^ s=(((m.getD i 0).toNat*2 ^ s:Nat):Int):=by simp
    rw[e1,e2,am]; omega
   rw[et];generalize hxx:(m.getD i 0).toNat=x at *;have hx32:x<4294967296:=by omega
   have hlow:x*2 ^ s%4294967296=2 ^ s*(x%2 ^ (32 - s)):=by
    have e:x*2 ^ s%(2 ^ s*2 ^ (32 - s))=2 ^ s*(x%2 ^ (32 - s)):=by rw[aab x]; exact ab1 _ _ _
    rwa [hs1]at e
   have hsum:2 ^ s*(x%2 ^ (32 - s))+c i<4294967296:=by have h1:x%2 ^ (32 - s)+1<=2 ^ (32 - s):=aao _ (aam _);have h2:=aae (2 ^ s) h1;rw[hs1,aap]at h2;omega
   have eor:aB .or .u32 ((c i:Nat):Int) (IntKind.wrap .u32 ((x*2 ^ s:Nat):Int))=((V / 4294967296 ^ (w+i)%4294967296:Nat):Int):=by
    have e1:IntKind.wrap .u32 ((x*2 ^ s:Nat):Int)=((2 ^ s*(x%2 ^ (32 - s)):Nat):Int):=by rw[<- hlow,dd]; omega
    rw[e1,pq _ _ s hci hsum,hdig];omega
   have ehi:IntKind.wrap .u32 (Int.fdiv ((x*2 ^ s:Nat):Int) (2 ^ 32))=((c (i+1):Nat):Int):=by have hxs:x*2 ^ s<4294967296*2147483648:=aaS hx32 hs2 (by decide);rw[jA,dd,hc1];omega
   rw[eor,ehi];have hl1:∀(a b:Int) (ys:List Int),(dl V (w+i)++a::b::ys).length=w+i+2+ys.length:=by intro a b ys; simp[hdl]; omega
   have hset2:(dl V (w+i)++((V / 4294967296 ^ (w+i)%4294967296:Nat):Int)::0::List.replicate (m.length - (i+1)) 0).set (w+i+1) ((c (i+1):Nat):Int)=dl V (w+(i+1))++((c (i+1):Nat):Int)::List.replicate (m.length - (i+1)) 0:=by
    have:dl V (w+i)++((V / 4294967296 ^ (w+i)%4294967296:Nat):Int)::0::List.replicate (m.length - (i+1)) 0=dl V (w+(i+1))++0::List.replicate (m.length - (i+1)) 0:=by rw[<- aaM,dl]; simp
    rw[this];exact bg _ _ _ _ _ (by rw[al]; omega)
   rw[hset2,hl1,hl1];simp only[abw];rw[Z7 (by omega:(i:Int)<m.length),Z_,aa Z6,aa (Z7 (by omega)),aa Z5,aa Z6,aa (Z7 (by omega)),aa Z6,aa (Z7 (by omega)),
    aa Z5,aa Z5,aa Z6,aa (Z7 (by omega)),aa Z5]
   rfl
  ·simp only[eB];rw[Z8 (by omega:¬(m.length:Int)<m.length),Z9,aaH,aaL];have hV:V<4294967296 ^ (w+m.length+1):=by have h1:=eI hm;simp only[V];rw[hp2,aaj,aal,aaD,aah];refine abh ?_ (aY w);exact aaS h1 (by omega) (by decide)
   have hT:T m.length=X:=by simp only[T,X]; rw[aaR]
   have hend:dl V (w+m.length)++[((c m.length:Nat):Int)]=dl V (w+m.length+1):=by
    rw[dl];have:c m.length=V / 4294967296 ^ (w+m.length)%4294967296:=by simp only[c];rw[hT,hVX,aal,<- aaf,aaJ _ (aY w)];rw[aai];rw[aag (aY _),aab];have h1:=eI hm;simp only[X];exact aaS h1 (by omega) (by decide)
    rw[this]
   rw[hend,dj _ (iD V _) (by rw[al]; omega) (by rw[al]; omega),ou hV]
theorem Aj {m:List Int} (hm:InW m) (j:Nat):∃ R,aE m / 4294967296 ^ j=(m.getD j 0).toNat+4294967296*(m.getD (j+1) 0).toNat+4294967296*4294967296*R:=by
 obtain⟨R,hR⟩:=bX m (j+2);refine⟨R,?_⟩;rw[hR,aT,aT];simp only[aaj];have e:aE (m.take j)+4294967296 ^ j*(m.getD j 0).toNat+4294967296 ^ j*4294967296*(m.getD (j+1) 0).toNat+4294967296 ^ j*4294967296*4294967296*R
   = aE (m.take j)+4294967296 ^ j*((m.getD j 0).toNat+4294967296*(m.getD (j+1) 0).toNat+4294967296*4294967296*R):=by
  rw[aap,aap,aah,aah,aah,aah]; omega
 rw[e,dT,aaC (bA hm j),aay]
theorem rI {N:Nat} (n:Nat) (hn:n<18446744073709551616) (hN:4<N) (k:Kz5):AY N n k=k (ai n):=by
 (unfold AY; rw[ac]; unfold JS)
 have hw:InW [IntKind.wrap .u32 (n:Int),IntKind.wrap .u32 (Int.fdiv (n:Int) (2 ^ 32))]:=by intro x hx;simp only[dd,jA,abx,acd,or_false]at hx;rcases hx with rfl | rfl <;> omega
 have hv:aE [IntKind.wrap .u32 (n:Int),IntKind.wrap .u32 (Int.fdiv (n:Int) (2 ^ 32))]=n:=by simp only[aE,dd,jA]; omega
 rw[dj _ hw (by simp; omega) (by simp),hv]
def sg (neg:Bool) (n:Nat):Bool:=neg&&decide (n ≠ 0)
theorem lQ (n:Nat):decide (((ai n).length:Int)>0)=decide (n ≠ 0):=by
 by_cases h:n=0
 ·subst h; rw[bb]; simp
 ·obtain⟨-,h2⟩:=qg n h;rw[Z7 (by omega),Z7 h]
theorem O5 (neg:Bool) (n:Nat) (k:Ky2):cond (neg==true) (k (decide (((ai n).length:Int)>0)) (ai n)) (k false (ai n))=k (sg neg n) (ai n):=by rw[lQ];cases neg <;> rfl
theorem l8 {N:Nat} (neg:Bool) (m:List Int) (b:Bool) (hm:InW m) (hN:fo N m) (k:Ky2):wJ N neg m b k=k (sg neg (aE m)) (ai (aE m)):=by unfold wJ OI;rw[GJ m hm (by have:=hN.1; omega) (by have:=hN.2; omega)];exact O5 neg _ k
theorem si {N:Nat} (n:Nat) (hn:n<18446744073709551616) (b:Bool) (hN:fo N (ai n)) (h4:4<N) (k:Ky2):Oq N n b k=k false (ai n):=by
 (unfold Oq; rw[ac]; unfold PT)
 rw[rI n hn h4,l8 false _ b (bh n) hN,aM];rfl
def ba (g:Bool) (n:Nat):Int:=if g=true then -(n:Int)else n
def rV (z:Int) (k:Ky2):Bool:=k (decide (z<0)) (ai z.natAbs)
theorem rM (g:Bool) (n:Nat) (k:Ky2):k (sg g n) (ai n)=rV (ba g n) k:=by
 unfold rV ba sg;cases g
 ·simp only[aaX,aaG,acM,aa4];rw[Z8 (by omega)]
 ·simp only[abI,abd,acN,aa4];congr 1;by_cases h:n=0
  ·subst h; rfl
  ·rw[Z7 h,Z7 (by omega)]
theorem K5 (z:Int):ba (decide (z<0)) z.natAbs=z:=by
 unfold ba;by_cases h:z<0
 ·rw[Z7 h]; simp; omega
 ·rw[Z8 h]; simp; omega
theorem rk {x y:Nat}:decide (dx x y>=0)=decide (y<=x):=by
 unfold dx;split
 ·rw[Z8 (by omega),Z8 (by omega)]
 ·split
  ·rw[Z7 (by omega),Z7 (by omega)]
  ·rw[Z7 (by omega),Z7 (by omega)]
theorem I9 (g1 g2 turn:Bool) (n1 n2:Nat) (k:Ky2) :
  cond (g1==(g2 != turn)) (k (sg (g2 != turn) (n1+n2)) (ai (n1+n2))) (cond (decide (dx n1 n2>=0)) (k (sg g1 (n1 - n2)) (ai (n1 - n2))) (k (sg (g2 != turn) (n2 - n1)) (ai (n2 - n1))))
   = rV (ba g1 n1+(if turn=true then -(ba g2 n2)else ba g2 n2)) k:=by
 rw[rM _ _ k,rM _ _ k,rM _ _ k,rk];have key:∀ a b:Int,a=b->rV a k=rV b k:=λa b h=>by rw[h]
 cases g1 <;> cases g2 <;> cases turn <;> simp only[ba] <;> by_cases h:n2<=n1 <;> simp only[h,acZ,ade,Z_,Z9,bne,abZ,aa2,aaP,aaX,abI,aaG,(by decide:(false==true)=false),(by decide:(true==false)=false)] <;> refine key _ _ ?_ <;> omega
theorem Iy {N:Nat} (turn b g1:Bool) (n1:Nat) (g2:Bool) (n2:Nat) (h1:fo N (ai n1)) (h2:fo N (ai n2)) (h3:fo N (ai (n1+n2))) (k:Ky2) :
  R6 N turn b g1 (ai n1) g2 (ai n2) k=rV (ba g1 n1+(if turn=true then -(ba g2 n2)else ba g2 n2)) k:=by
 (unfold R6; rw[ac]; unfold P_)
 have hs:∀ m,m<=n1+n2->fo N (ai m):=λm hm=>by have:=bT hm;exact⟨by have:=h3.1; omega,by have:=h3.2; omega⟩
 rw[Ls _ _ (bh _) (bh _) h1 h2,jr _ _ h1 h2,aM,aM,l8 _ _ _ (bh _) h3,aM,<- I9];congr 1;by_cases h:n2<=n1
 ·rw[vp _ _ (bh _) (bh _) (by rw[aM,aM]; exact h) h1,aM,aM,l8 _ _ _ (bh _) (hs _ (by omega)),aM,rk,Z7 h];rfl
 ·rw[vp _ _ (bh n2) (bh n1) (by rw[aM,aM]; omega) h2,aM,aM,l8 _ _ _ (bh _) (hs _ (by omega)),aM,rk,Z8 h];rfl
theorem Ih {N:Nat} (b g1:Bool) (n1:Nat) (g2:Bool) (n2:Nat) (h1:fo N (ai n1)) (h2:fo N (ai n2)) (h3:fo N (ai (n1+n2))) (k:Ky2) :
  LZ N b g1 (ai n1) g2 (ai n2) k=rV (ba g1 n1 - ba g2 n2) k:=by
 unfold LZ OG;rw[Iy true b g1 n1 g2 n2 h1 h2 h3]; rfl
def Tm (N m s:Nat):Prop:=(ai m).length+s / 32+4<N/\(ai m).length<=1099511627776/\s<4294967296/\fo N (ai (m*2 ^ s))
theorem Ax {N:Nat} (s:Nat) (b g:Bool) (n:Nat) (h:Tm N n s) (k:Ky2):G9 N s b g (ai n) k=rV (ba g (n*2 ^ s)) k:=by
 (unfold G9; rw[ac]; unfold Jz)
 rw[Lo _ (bh n) s h.2.2.1 h.1 h.2.1,aM,l8 _ _ _ (bh _) h.2.2.2,aM,rM _ _ k]
theorem yI {N:Nat} (n:Nat) (hn:n<9223372036854775808) (hs:fo N (ai n)) (h4:4<N) (k:Ky2):lV N n k=k false (ai n):=by
 (unfold lV tS; unfold Pa; rw[ac]; unfold JE iC)
 have e:IntKind.wrap .u64 (n:Int)=n:=by rw[am]; omega
 rw[Z8 (by omega:¬(n:Int)<0),Z9,e,rI n (by omega) h4,l8 _ _ _ (bh _) hs,aM];rfl
theorem KC:ai 1=[1]:=by rw[ci (by decide),bb]; rfl
theorem jO (a b:Nat):Int.fdiv (a:Int) (b:Int)=((a / b:Nat):Int):=by rw[abC _ (by omega)]; rfl
theorem px (N:Nat) (k:Kz1):vA N 52 2047 1075 k=k 9223372036854775808:=by rfl
theorem lL (N:Nat) (k:Kz1):nu N 52 2047 1075 k=k 9218868437227405312:=by rfl
theorem jK (N:Nat) (k:Kz1):lw N 52 2047 1075 k=k 4503599627370496:=by rfl
theorem w9 (N:Nat) (k:Kz1):vz N 52 2047 1075 k=k 9221120237041090561:=by
 (unfold vz; rw[ac]; unfold uO)
 simp only[lL,jK];exact adg k (by decide)
theorem Ny (N:Nat) (b:Nat) (k:Kz0):Ma N b 52 2047 1075 k=k (isNaN b):=by
 (unfold Ma; rw[ac]; unfold JA)
 simp only[px,lL,ny];congr 1;rw[abE,aby,eZ];omega
def cnb (b:Nat):Nat:=if isNaN b then 9221120237041090561 else b
theorem AA (N:Nat) (b:Nat) (k:Kz1):Mo N b 52 2047 1075 k=k (cnb b):=by unfold Mo SB;simp only[Ny,w9,cnb];cases isNaN b <;> rfl
theorem AD (N:Nat) (b:Nat) (k:Kx7):On N b 52 2047 1075 k=k (aB .and .u64 (cnb b) 9223372036854775808 != 0) ((cnb b / 4503599627370496%2048:Nat):Int) ((cnb b%4503599627370496:Nat):Int):=by
 (unfold On; rw[ac]; unfold PR)
 simp only[AA,px,jK];have e1:(2:Int) ^ (min (Int.toNat 52) 64)=((4503599627370496:Nat):Int):=by decide
 have e2:IntKind.wrap .u64 2047=((2 ^ 11 - 1:Nat):Int):=by decide
 have e3:IntKind.wrap .u64 (4503599627370496 - 1)=((2 ^ 52 - 1:Nat):Int):=by decide
 have e4:decide ((0:Int)<=52)=true:=by decide
 rw[e1,jO,e2,e3,jw _ _ (by decide),jw _ _ (by decide),e4,ab (by omega) (by omega)];rfl
theorem Bf (b:Nat):cls b=if (cnb b / 4503599627370496%2048)=2047 then(if cnb b%4503599627370496=0 then 2 else 1)else if cnb b / 4503599627370496%2048=0 then(if cnb b%4503599627370496=0 then 3 else 4)else 5:=by
 unfold cls cnb;by_cases h:isNaN b=true
 ·rw[if_pos h,if_pos h]; decide
 ·rw[if_neg h,if_neg h];have hn:¬(9218868437227405312<b%9223372036854775808):=λq=>h ((eZ b).2 q)
  by_cases h1:b / 4503599627370496%2048=2047
  ·rw[if_pos h1,if_pos h1,if_pos (by omega)]
  ·rw[if_neg h1,if_neg h1]
theorem AB (N:Nat) (b:Nat) (k:Kz1):Om N b 52 2047 1075 k=k (cls b):=by
 (unfold Om; rw[ac]; unfold PQ)
 simp only[AD,Bf b];generalize cnb b / 4503599627370496%2048=e;generalize cnb b%4503599627370496=f;have d1:((e:Int)==2047)=decide (e=2047):=by rw[abE,abL,aby]; omega
 have d2:((e:Int)==0)=decide (e=0):=by rw[abE,abL,aby]; omega
 have d3:((f:Int)==0)=decide (f=0):=by rw[abE,abL,aby]; omega
 simp only[bne,d1,d2,d3];by_cases h1:e=2047 <;> by_cases h2:e=0 <;> by_cases h3:f=0 <;> simp[h1,h2,h3]
theorem H9 (N:Nat) (b:Nat) (k:Kz1):sQ6 N b k=k (cls b):=by unfold sQ6 GQ6;simp only[BV,rN,A7,AB]
theorem Kq (a b:Nat) (_ha:a<18446744073709551616\/True):decide ((cnb a:Int)=cnb b)=decide (cn (some a)=cn (some b)):=by
 have hq:isNaN 9221120237041090561=true:=by decide
 rw[abE,aby,aby];have cf:∀ c,cn (some c)=if isNaN c=true then none else some c:=λ_=>rfl
 rw[cf,cf];unfold cnb;by_cases h1:isNaN a=true <;> by_cases h2:isNaN b=true
 ·simp[h1,h2]
 ·rw[if_pos h1,if_neg h2,if_pos h1,if_neg h2];refine⟨λh=>?_,λh=>by cases h⟩;have:b=9221120237041090561:=by omega
  rw[this]at h2; exact absurd hq h2
 ·rw[if_neg h1,if_pos h2,if_neg h1,if_pos h2];refine⟨λh=>?_,λh=>by cases h⟩;have:a=9221120237041090561:=by omega
  rw[this]at h1; exact absurd hq h1
 ·simp only[h1,h2,aaG,aaA,aaX]; omega
theorem Nt (N:Nat) (b:Nat) (k:Kz3):FV N b k=k (zM (some b)):=by unfold FV Sx;simp only[BV,wH,ny];rfl
theorem Ks (b:Bool) (k:Kz0):cond b (k true) (k false)=k b:=by cases b <;> rfl
theorem be {a c:Bool} (h:a=true):(a&&c)=c:=by rw[h]; rfl
def bO (N n:Nat):Prop:=n<N/\n<=17592186044416
theorem A2 (i n j:Nat):Int.toNat ((i:Int)*(n:Int)+(j:Int))=i*n+j:=by rw[<- aat,<- Int.natCast_add,aac]
def ip (l:List Int):List Fl:=l.map λn=>gk n.toNat
theorem qs {N:Nat} (l:List Int) (hl:bO N l.length) (k:Kz4):ji N l k=k (ip l):=by
 (unfold ji; rw[ac]; unfold sD)
 refine(bw (λi=>((i:Int),(l.take i).map λn=>gk n.toNat)) l.length hl.1 (λi hi K=>?_) (λK=>?_):_)
 ·have h2:=hl.2;have e1:(l.take (i+1)).map (λn=>gk n.toNat)=(l.take i).map (λn=>gk n.toNat)++[gk (l.getD i 0).toNat]:=by rw[abq hi,abU,List.getD_eq_getElem?_getD,List.getElem?_eq_getElem hi]; rfl
  simp only[kR,wH,aac];rw[bJ (by omega),Z_,be Z6,be (bJ (by simp; omega)),be Z5,e1];rfl
 ·simp only[kR];rw[bM (by omega),Z9,aaR]; rfl
def aF (xs:List Fl):Bool:=oi (λi=>aG (xs.getD i none)) xs.length
theorem jb {N:Nat} (xs:List Fl) (hl:bO N xs.length) (k:Kz0):wK N xs k=k (aF xs):=by
 (unfold wK; rw[ac]; unfold JJ)
 rw[<- Ks (aF xs) k];refine(kn (λi=>(i:Int)) (λi=>aG (xs.getD i none)) xs.length hl.1 (λi hi K=>?_) (λK=>?_):_)
 ·have h2:=hl.2;simp only[jZ,Mn,aac];rw[bJ (by omega),Z_,be Z6,be Z5];have hc:=CE (xs.getD i none);generalize xT (xs.getD i none)=c at hc ⊢;generalize aG (xs.getD i none)=f at hc ⊢;have d1:(c==1)=decide (c=1):=rfl;have d2:(c==2)=decide (c=2):=rfl;rw[d1,d2];generalize decide (c=1)=u at *;generalize decide (c=2)=v at *;cases u <;> cases v <;> cases f <;> first | rfl | cases hc
 ·simp only[jZ];rw[bM (by omega),Z9]
def lE:Fl->Nat
 | none=>9221120237041090561
 | some b=>cnb b
theorem FL (d:Ieee.Datum) (h:d.isNaN=false):d.order d=some .eq:=by
 cases d with
 | nan s t=>cases h
 | infinity s=>simp[Ieee.Datum.order,compare,compareOfLessAndEq]
 | number s m i=>simp[Ieee.Datum.order,compare,compareOfLessAndEq]
theorem HS (b:Nat) (h:isNaN b=false):(Ieee.double.order b b==some .eq)=true:=by unfold Ieee.Format.order;rw[FL _ h]; rfl
theorem KP (b:Nat):feq (some b) (some b) = !isNaN b:=by
 cases h:isNaN b with
 | true=>simp[feq,ua,mA b h]
 | false=>simp only[feq,ua,aaP]; exact HS b h
theorem Df (N:Nat) (x:Fl) (k:Kz1):mF N x k=k (lE x):=by
 unfold mF xE tB;cases x with
 | none=>rfl
 | some b=>
  rw[KP];simp only[lE,cnb];cases isNaN b <;> rfl
theorem DI (a b:Nat):Int.tmod (a:Int) (b:Int)=((a%b:Nat):Int):=by rw[aa3 (by omega)]; rfl
theorem Az (N:Nat) (x:Fl) (k:Kx7):nh N x k=k (Int.fdiv (lE x:Int) (2 ^ 63)==1) ((lE x / 4503599627370496%2048:Nat):Int) ((lE x%4503599627370496:Nat):Int):=by
 (unfold nh; rw[ac]; unfold pU)
 simp only[Df];have e1:(2:Int) ^ 52=((4503599627370496:Nat):Int):=by decide
 have e2:(2048:Int)=((2048:Nat):Int):=rfl;have e3:(4503599627370496:Int)=((4503599627370496:Nat):Int):=rfl;rw[e1,e2,e3,jO,DI,DI,ab (by omega) (by omega)];rfl
theorem HK (x:Fl):xT x=if (lE x / 4503599627370496%2048)=2047 then(if lE x%4503599627370496=0 then 2 else 1)else if lE x / 4503599627370496%2048=0 then(if lE x%4503599627370496=0 then 3 else 4)else 5:=by
 cases x with
 | none=>decide
 | some b=>exact Bf b
theorem zS (N:Nat) (x:Fl) (k:Kz1):qN N x k=k (xT x):=by
 (unfold qN vO; unfold Pe; rw[ac]; unfold JX)
 simp only[Az,HK x];generalize lE x / 4503599627370496%2048=e;generalize lE x%4503599627370496=f;have d1:((e:Int)==2047)=decide (e=2047):=by rw[abE,abL,aby]; omega
 have d2:((e:Int)==0)=decide (e=0):=by rw[abE,abL,aby]; omega
 have d3:((f:Int)==0)=decide (f=0):=by rw[abE,abL,aby]; omega
 simp only[bne,d1,d2,d3];by_cases h1:e=2047 <;> by_cases h2:e=0 <;> by_cases h3:f=0 <;> simp[h1,h2,h3]
theorem mp (N:Nat) (x:Fl) (k:Kz0):wI N x k=k (aG x):=by
 unfold wI OH;simp only[zS];congr 1;have h1:=CE x;have h2:=MW x;rw[abE,aby];cases hf:aG x with
 | true=>
  rw[hf]at h1;simp only[aa2,Bool.or_eq_false_iff,ab2]at h1;exact⟨λ_=>rfl,λ_=>by omega⟩
 | false=>
  rw[hf]at h1;simp only[aaP,ac4,abR]at h1;exact⟨λ_=>by omega,λh=>by cases h⟩
theorem kI {N:Nat} (xs:List Fl) (hl:bO N xs.length) (k:Kz0):I1 N xs k=k (aF xs):=by
 (unfold I1; rw[ac]; unfold PW)
 rw[<- Ks (aF xs) k];refine(kn (λi=>(i:Int)) (λi=>aG (xs.getD i none)) xs.length hl.1 (λi hi K=>?_) (λK=>?_):_)
 ·have h2:=hl.2;simp only[fJ,aac,mp];rw[bJ (by omega),Z_,be Z6,be Z5];cases aG (xs.getD i none) <;> rfl
 ·simp only[fJ];rw[bM (by omega),Z9]
theorem Kf (x y:Fl):((lE x:Int)==lE y)=decide (cn x=cn y):=by
 have hq:cn (some 9221120237041090561)=none:=by decide
 have hb:cnb 9221120237041090561=9221120237041090561:=by decide
 have key:∀ x,∃ a,lE x=cnb a/\cn x=cn (some a):=by
  intro x;cases x with
  | none=>exact⟨9221120237041090561,hb.symm,hq.symm⟩
  | some b=>exact⟨b,rfl,rfl⟩
 obtain⟨a,e1,e2⟩:=key x;obtain⟨b,e3,e4⟩:=key y;rw[e1,e2,e3,e4,<- Kq a b (.inr trivial)];rfl
theorem uo (N:Nat) (x y:Fl) (k:Kz0):pa N x y k=k (decide (cn x=cn y)):=by
 (unfold pa; rw[ac]; unfold sE)
 simp only[Df,Kf]
theorem At {σ:Type} {step:σ->(σ->Bool)->Bool} {s:σ} (C:Nat->σ) (n:Nat) {N:Nat} (h0:s=C 0) (hn:n<N) {out:Bool} (hs:∀ i,i<n -> ∀ K:σ->Bool,step (C i) K=K (C (i+1))) (hx:∀ K,step (C n) K=out):aj N step s=out:=by subst h0; exact bw C n hn hs hx
theorem oC {σ:Type} {step:σ->(σ->Bool)->Bool} {s:σ} (C:Nat->σ) (p:Nat->Bool) (n:Nat) {N:Nat} (h0:s=C 0) (hn:n<N) {ex out:Bool}
  (hs:∀ i,i<n -> ∀ K:σ->Bool,step (C i) K=cond (p i) (K (C (i+1))) ex) (hx:∀ K,step (C n) K=out):aj N step s=cond (oi p n) out ex:=by
 subst h0; exact kn C p n hn hs hx
theorem ja {n i j:Nat} (hi:i<n) (hj:j<n):i*n+j<n*n:=by have:(i+1)*n<=n*n:=aaa n hi;rw[aaz]at this; omega
theorem sk {n:Nat} (h:n<=12):n*n<=144:=aaV h h
theorem S0 {n i:Nat} (h:n<=12) (hi:i<n):i*n<=144:=aaV (by omega:i<=12) h
theorem nq (a b:Int):(a != b) = !decide (a=b):=rfl
theorem Ly (N:Nat) (n:Int) (k:Kz0):AX N n k=k (decide (0<=n/\n<=12)):=by
 unfold AX JC;by_cases h1:0<=n
 ·rw[bJ (p:=n>=0) h1]; simp[h1]
 ·rw[bM (p:=n>=0) h1]; simp[h1]
def chk (r c:Int) (xs:List Fl):Int:=if (0<=r/\r<=12)/\(0<=c/\c<=12)then(if (xs.length:Int)=r*c then(if aF xs=true then 0 else 4)else 3)else 1
theorem G2 {r c:Int} (hr:0<=r/\r<=12) (hc:0<=c/\c<=12):af .i64 (r*c)=true:=by have h1:0<=r*c:=Int.mul_nonneg hr.1 hc.1;have h2:r*c<=12*12:=Int.mul_le_mul hr.2 hc.2 hc.1 (by decide);exact ab (by omega) (by omega)
theorem H8 {N:Nat} (r c:Int) (xs:List Fl) (hl:bO N xs.length) (k:Kz1):D7 N r c xs k=k (chk r c xs):=by
 (unfold D7; rw[ac]; unfold MP chk)
 simp only[Ly,jb xs hl];by_cases hr:0<=r/\r<=12
 ·by_cases hc:0<=c/\c<=12
  ·rw[bJ hr,bJ hc,if_pos ⟨hr,hc⟩,nq,G2 hr hc];by_cases hx:(xs.length:Int)=r*c
   ·rw[bJ hx,if_pos hx]; cases aF xs <;> rfl
   ·rw[bM hx,if_neg hx]; rfl
  ·rw[bJ hr,bM hc,if_neg (λh=>hc h.2)]; rfl
 ·rw[bM hr,if_neg (λh=>hr h.1)]; rfl
theorem kV {r c:Int} {xs:List Fl}:chk r c xs=0↔((0<=r/\r<=12)/\(0<=c/\c<=12))/\(xs.length:Int)=r*c/\aF xs=true:=by
 unfold chk;split
 ·split
  ·split
   ·simp[*]
   ·simp[*]
  ·simp[*]
 ·simp[*]
def elt (xs:List Fl) (n i j:Nat):Fl:=xs.getD (i*n+j) none
def upP (xs:List Fl) (n i j:Nat):Bool:=decide (cn (elt xs n i j)=cn (some 0))
def qu (xs:List Fl) (n i:Nat):Bool:=oi (λd=>upP xs n i (i+1+d)) (n - (i+1))
def sO (xs:List Fl) (n i:Nat):Bool:=fgt (elt xs n i i) (some 0)
theorem GW (V x Bk bk i k:Nat):V%4294967296 ^ (i+k+1)+x*(Bk+4294967296 ^ k*bk)*4294967296 ^ i=(V%4294967296 ^ (i+k)+x*Bk*4294967296 ^ i)+4294967296 ^ (i+k)*(V / 4294967296 ^ (i+k)%4294967296+x*bk):=by rw[Nat.mod_pow_succ,aal];grind
theorem ES (V x Bk bk i k:Nat):(V%4294967296 ^ (i+k+1)+x*(Bk+4294967296 ^ k*bk)*4294967296 ^ i) / 4294967296 ^ (i+k+1)=((V%4294967296 ^ (i+k)+x*Bk*4294967296 ^ i) / 4294967296 ^ (i+k)+V / 4294967296 ^ (i+k)%4294967296+x*bk) / 4294967296:=by rw[GW,aaj,<- aaf,aa5 _ _ (abg (by decide)),aaM]
theorem CB (V x Bk bk i k R:Nat):(V+x*(Bk+4294967296 ^ k*bk+4294967296 ^ (k+1)*R)*4294967296 ^ i) / 4294967296 ^ (i+k)%4294967296=((V%4294967296 ^ (i+k)+x*Bk*4294967296 ^ i) / 4294967296 ^ (i+k)+V / 4294967296 ^ (i+k)%4294967296+x*bk)%4294967296:=by
 have e:V+x*(Bk+4294967296 ^ k*bk+4294967296 ^ (k+1)*R)*4294967296 ^ i=(V%4294967296 ^ (i+k+1)+x*(Bk+4294967296 ^ k*bk)*4294967296 ^ i)+4294967296 ^ (i+k+1)*(V / 4294967296 ^ (i+k+1)+x*R):=by
  have h:=aaY V (4294967296 ^ (i+k+1));have h2:4294967296 ^ (i+k+1)=4294967296 ^ (k+1)*4294967296 ^ i:=by rw[<- aal]; congr 1; omega
  generalize V / 4294967296 ^ (i+k+1)=q at *;generalize V%4294967296 ^ (i+k+1)=r at *;rw[<- h,h2];grind
 rw[kW e,GW,aa5 _ _ (abg (by decide)),aaM]
theorem Km {V x Bk i k:Nat} (hx:x<4294967296) (hB:Bk<4294967296 ^ k):(V%4294967296 ^ (i+k)+x*Bk*4294967296 ^ i) / 4294967296 ^ (i+k)<4294967296:=by
 rw[aag (abg (by decide))];have h1:V%4294967296 ^ (i+k)<4294967296 ^ (i+k):=aao _ (abg (by decide));have h2:x*Bk<=4294967295*4294967296 ^ k:=aaV (by omega) (by omega);have h3:x*Bk*4294967296 ^ i<=4294967295*4294967296 ^ (i+k):=by
  have:=aaa (4294967296 ^ i) h2
  rwa [aah 4294967295,<- aal,ab7 k i]at this
 omega
theorem rn (S:Nat) {L i:Nat} (h:i<L):(dl S L).getD i 0=((S / 4294967296 ^ i%4294967296:Nat):Int):=by
 induction L with
 | zero=>omega
 | succ L ih=>
  show((dl S L)++[_]).getD i 0=_;rw[List.getD_eq_getElem?_getD];by_cases hi:i<L
  ·rw[List.getElem?_append_left (by rw[al]; exact hi),<- List.getD_eq_getElem?_getD,ih hi]
  ·have:i=L:=by omega
   subst this;rw[List.getElem?_append_right (by rw[al]; exact aak _),al,aaH]; rfl
theorem cU {l:List Int} {n:Nat} (h:n<l.length):l.drop n=l.getD n 0::l.drop (n+1):=by rw[List.drop_eq_getElem_cons h,List.getD_eq_getElem?_getD,List.getElem?_eq_getElem h]; rfl
theorem pA {b:List Int} {k:Nat}:aE (b.take (k+1))=aE (b.take k)+4294967296 ^ k*(b.getD k 0).toNat:=aT k
theorem yb (U V L p:Nat) (h:p<L):(dl U p++(dl V L).drop p).set p ((U / 4294967296 ^ p%4294967296:Nat):Int)=dl U (p+1)++(dl V L).drop (p+1):=by rw[cU (by rw[al]; exact h),bg _ _ _ _ _ (by rw[al])];show _=(dl U p++[_])++_;rw[aaq]; rfl
theorem EZ (U V L p:Nat) (h:p<L):(dl U p++(dl V L).drop p).getD p 0=((V / 4294967296 ^ p%4294967296:Nat):Int):=by rw[cU (by rw[al]; exact h),bU (by rw[al]),rn V h]
theorem ya (U V L p:Nat) (h:p<=L):(dl U p++(dl V L).drop p).length=L:=by simp[al]; omega
theorem HO {U L p:Nat} (hU:U<4294967296 ^ p) (h:p<=L) {V:Nat} (hV:V<4294967296 ^ p):dl U p++(dl V L).drop p=dl U L:=by
 induction L with
 | zero=>
  have:p=0:=by omega
  subst this; rfl
 | succ L ih=>
  by_cases hp:p=L+1
  ·subst hp; rw[aaU (by rw[al]; omega),aaI]
  ·have hpL:p<=L:=by omega
   have e:∀ X,X<4294967296 ^ p->dl X (L+1)=dl X L++[0]:=by intro X hX;show dl X L++[((X / 4294967296 ^ L%4294967296:Nat):Int)]=_;rw[aaC (aar hX (aan (by decide) hpL))]; rfl
   rw[e V hV,e U hU,aa_ (by rw[al]; exact hpL),<- aaq,ih hpL]
theorem tn {a:List Int} (ha:InW a) (i:Nat):aE (a.take i)<4294967296 ^ i:=bA ha i
theorem tm {x y i j:Nat} (hx:x<4294967296 ^ i) (hy:y<4294967296 ^ j):x*y<4294967296 ^ (i+j):=by rw[aal];exact adr hx hy
theorem vt {N:Nat} (a b:List Int) (ha:InW a) (hb:InW b) (hN:a.length+b.length+2<N) (hs:a.length+b.length<=17592186044416) (k:Kz5):pC N a b k=k (ai (aE a*aE b)):=by
  (unfold pC; rw[ac]; unfold Jm)
  have eL:Int.toNat (((a.length:Nat):Int)+((b.length:Nat):Int))=a.length+b.length:=by omega
  rw[aa Z5,aa (bZ (by omega) (by omega) (by omega) (by omega)),eL]
  let L:=a.length+b.length
  let B:=aE b
  have hB:B<4294967296 ^ b.length:=eI hb;refine aH (λi=>((i:Int),dl (aE (a.take i)*B) L)) a.length ?_ (by omega) (λi hi K=>?_) (λK=>?_)
  · show((0:Int),List.replicate L (0:Int))=(((0:Nat):Int),dl (aE (a.take 0)*B) L)
    have:=sP L 0;rw[abt]at this;rw[acu,show aE []=0 from rfl,abr,this]; rfl
  · simp only[j_]
    rw[Z7 (by omega:(i:Int)<a.length),Z_];have hx:=ha.at (i:=i)
    let V:=aE (a.take i)*B
    let x:=(a.getD i 0).toNat
    let U:=aE (a.take (i+1))*B
    have hU:U=V+x*B*4294967296 ^ i:=by simp only[U,V,x];rw[pA];grind
    have hV:V<4294967296 ^ (i+b.length):=tm (tn ha i) hB;have hUl:U<4294967296 ^ (i+1+b.length):=tm (tn ha (i+1)) hB
    let c:=λj=>(V%4294967296 ^ (i+j)+x*aE (b.take j)*4294967296 ^ i) / 4294967296 ^ (i+j)
    refine aH (λj=>(((c j:Nat):Int),(j:Int),dl U (i+j)++(dl V L).drop (i+j))) b.length ?_ (by omega) (λj hj K'=>?_) (λK'=>?_)
    · show((0:Int),(0:Int),dl V L)=_
      have h0:c 0=0:=by simp only[c,acu,show aE []=0 from rfl,abt,abr,aaF];exact aaC (aao _ (abg (by decide)))
      have hlow:dl U i=dl V i:=by
        have:∀ n,n<=i->dl U n=dl V n:=by
          intro n;induction n with
          | zero=>intro _; rfl
          | succ n ih=>
            intro hn;show dl U n++[_]=dl V n++[_];rw[ih (by omega)];congr 3;have:U=V+4294967296 ^ (n+1)*(x*B*4294967296 ^ (i - (n+1))):=by rw[hU,aaD,<- aal,show n+1+(i - (n+1))=i by omega]
            exact kW this
        exact this i (aak _)
      have hsp:dl V i++(dl V L).drop i=dl V L:=by
        have:∀ n,i<=n->dl V i++(dl V n).drop i=dl V n:=by
          intro n;induction n with
          | zero=>intro h; have:i=0:=(by omega); subst this; rfl
          | succ n ih=>
            intro h;by_cases hn:i=n+1
            · subst hn; rw[aaU (by rw[al]; omega),aaI]
            · show dl V i++(dl V n++[_]).drop i=dl V n++[_]
              rw[aa_ (by rw[al]; omega),<- aaq,ih (by omega)]
        exact this L (by simp only[L]; omega)
      rw[h0,aaF,hlow,hsp]; rfl
    · have hy:=hb.at (i:=j)
      have hp:i+j<L:=by simp only[L]; omega
      have hlen:=ya U V L (i+j) (by omega);have hget:=EZ U V L (i+j) hp;have hset:=yb U V L (i+j) hp;have hc:=Km (V:=V) (x:=x) (i:=i) (k:=j) (Bk:=aE (b.take j)) (by simp only[x]; omega) (tn hb j);have hstep:=ES V x (aE (b.take j)) (b.getD j 0).toNat i j;obtain⟨R,hR⟩:=bX b (j+1);have hdig:=CB V x (aE (b.take j)) (b.getD j 0).toNat i j R;rw[<- pA]at hstep hdig;rw[<- hR]at hdig;have hUe:V+x*aE b*4294967296 ^ i=U:=hU.symm;rw[hUe]at hdig;have hxy:x*(b.getD j 0).toNat<=4294967295*4294967295:=aaV (by simp only[x]; omega) (by omega);have eidx:Int.toNat ((i:Int)+(j:Int))=i+j:=by omega
      have hcj:∀ n,c n=(V%4294967296 ^ (i+n)+x*aE (b.take n)*4294967296 ^ i) / 4294967296 ^ (i+n):=λ_=>rfl
      have hax:a.getD i 0=(x:Int):=by simp only[x]; omega
      have hby:b.getD j 0=((b.getD j 0).toNat:Int):=by omega
      simp only[ka,aac,eidx,hlen,hget];rw[Z7 (by omega:(j:Int)<b.length),Z_,aa Z6,aa Z6,aa Z5,aa Z6,aa (Z7 (by omega)),aa Z5,aa Z6,aa (Z7 (by omega)),aa Z5];have ec1:c (j+1)=(c j+V / 4294967296 ^ (i+j)%4294967296+x*(b.getD j 0).toNat) / 4294967296:=hstep;have ed:U / 4294967296 ^ (i+j)%4294967296=(c j+V / 4294967296 ^ (i+j)%4294967296+x*(b.getD j 0).toNat)%4294967296:=hdig;have hcl:c j<4294967296:=hc;rw[ed]at hset;have vlt:V / 4294967296 ^ (i+j)%4294967296<4294967296:=aao _ (by decide);rw[hax,hby,show i+(j+1)=i+j+1 by omega,<- hset];generalize V / 4294967296 ^ (i+j)%4294967296=v at *;generalize (b.getD j 0).toNat=y at *;generalize dl U (i+j)++(dl V L).drop (i+j)=l at *;have et:∀ q:Nat,q=c j+v+x*y->IntKind.wrap .u64 ((IntKind.wrap .u64 ((IntKind.wrap .u64 ((IntKind.wrap .u64 (x:Int))*(IntKind.wrap .u64 (y:Int))))+(IntKind.wrap .u64 (v:Int))))+((c j:Nat):Int))=(q:Int):=by
        intro q hq;have exy:((x:Int))*(y:Int)=((x*y:Nat):Int):=by rw[aat]
        have hxl:x<4294967296:=by simp only[x]; omega
        have hyl:y<4294967296:=by omega
        have w1:IntKind.wrap .u64 (x:Int)=x:=by rw[am]; omega
        have w2:IntKind.wrap .u64 (y:Int)=y:=by rw[am]; omega
        rw[w1,w2,exy,am,am,am,am];omega
      rw[et _ rfl,ec1,jA,dd];congr 1
    · simp only[ka]
      rw[Z8 (by omega:¬(b.length:Int)<b.length),Z9];have hlen:=ya U V L (i+b.length) (by simp only[L]; omega);have hset:=yb U V L (i+b.length) (by simp only[L]; omega);have eidx:Int.toNat ((i:Int)+(b.length:Int))=i+b.length:=by omega
      have hLe:i+b.length<L:=by simp only[L]; omega
      have hc:c b.length=U / 4294967296 ^ (i+b.length):=by simp only[c];rw[aaR,aai hV,hU]
      have hcl:U / 4294967296 ^ (i+b.length)<4294967296:=by
        rw[aag (abg (by decide))];have:i+1+b.length=i+b.length+1:=by omega
        rw[this,aaj]at hUl;omega
      have ew:IntKind.wrap .u32 ((c b.length:Nat):Int)=((U / 4294967296 ^ (i+b.length)%4294967296:Nat):Int):=by rw[dd,hc]; omega
      have hfin:=HO (U:=U) (V:=V) (L:=L) (p:=i+b.length+1) (by rw[show i+b.length+1=i+1+b.length by omega]; exact hUl) (by omega) (aar hV (aan (by decide) (by omega)));rw[aa Z5,eidx,hlen,aa Z6,aa (Z7 (by omega)),aa Z5,ew,hset,hfin];rfl
  · simp only[j_]
    rw[Z8 (by omega:¬(a.length:Int)<a.length),Z9,aaR,dj _ (iD _ _) (by rw[al]; simp only[L]; omega) (by rw[al]; simp only[L]; omega)];rw[ou (tm (eI ha) hB)]
theorem yA (g h:Bool) (m n:Nat):ba (g != h) (m*n)=ba g m*ba h n:=by unfold ba;rw[aat];cases g <;> cases h <;> simp[adn,ac8]
theorem CN (n:Nat):bP (ai n) (ai n).length=(ai n).length:=by
 have ht:(ai n).take (bP (ai n) (ai n).length)=ai n:=by rw[qZ (bh n),aM]
 have hc:=jk (ai n) (ai n).length;have:=adg List.length ht;rw[aaO]at this; omega
theorem NL (g:Bool) (n:Nat) (k:Ky2):cond ((!g)==true) (k (decide (((ai n).length:Int)>0)) (ai n)) (k false (ai n))=rV (-(ba g n)) k:=by rw[O5,rM _ _ k];congr 1;unfold ba; cases g <;> simp
theorem Ay {N:Nat} (g:Bool) (n:Nat) (hN:fo N (ai n)) (k:Ky2):Mi N g (ai n) k=rV (-(ba g n)) k:=by
 (unfold Mi; rw[ac]; unfold JQ qT pZ)
 obtain⟨h1,h2⟩:=hN;rw[aaZ,Z7 (by omega),abd,kp _ (by omega) (by omega),CN];simp only[abF,aaR];rw[Z7 (by omega:0+(ai n).length<=(ai n).length),abd];exact NL g n k
def aX (B:Nat) (n:Nat):Prop:=n<2 ^ B
theorem cA:∀(j n:Nat),n<4294967296 ^ j->(ai n).length<=j
 | 0,n,h=>by
  have:n=0:=by simp at h; exact h
  subst this; rw[bb]; exact aak _
 | j+1,n,h=>by
  by_cases h0:n=0
  ·subst h0; rw[bb]; simp
  ·rw[ci h0,aaK];have:n / 4294967296<4294967296 ^ j:=ab9 (by rw[aaj]at h; omega);have:=cA j _ this;omega
theorem Tb (j:Nat):4294967296 ^ j=2 ^ (32*j):=by rw[ac7]
theorem xP {B n:Nat} (h:aX B n):(ai n).length<=B / 32+1:=by refine cA _ _ ?_;rw[Tb];exact aar h (aan (by decide) (by omega))
theorem EP {N B n:Nat} (hN:1000<=N) (hB:B<=31000) (h:aX B n):fo N (ai n):=by have:=xP h;exact⟨by omega,by omega⟩
theorem bL {A B n:Nat} (h:aX A n) (hAB:A<=B):aX B n:=aar h (aan (by decide) hAB)
theorem dw {A B m n:Nat} (h:aX A m) (g:aX B n):aX (A+B) (m*n):=by unfold aX; rw[aal]; exact adr h g
theorem sK {A m:Nat} (h:aX A m) (s:Nat):aX (A+s) (m*2 ^ s):=by unfold aX; rw[aal]; exact aaQ h (aam s)
theorem tW {A m n:Nat} (h:aX A m) (g:aX A n):aX (A+1) (m+n):=by unfold aX at *; rw[aaj]; omega
theorem kH {A m n:Nat} (h:aX A m) (g:n<=m):aX A n:=abJ g h
theorem Ac {N B n s:Nat} (hN:1000<=N) (hB:B+s<=31000) (h:aX B n):Tm N n s:=by have h1:=xP h;exact⟨by omega,by omega,by omega,EP hN hB (sK h s)⟩
def exK (z:Int × Int) (k:Int->Bool->List Int->Bool):Bool:=k z.1 (decide (z.2<0)) (ai z.2.natAbs)
def wj (x y:Int × Int):Int × Int:=(x.1+y.1,x.2*y.2)
def OV (x:Int × Int):Int × Int:=(x.1,-x.2)
def qm (x:Int × Int) (e:Int):Int:=x.2*2 ^ (x.1 - e).toNat
def GB (x y:Int × Int):Int × Int:=if x.2=0 then y else if y.2=0 then x else(min x.1 y.1,qm x (min x.1 y.1)+qm y (min x.1 y.1))
def Ex (E B:Nat) (x:Int × Int):Prop:=-(E:Int)<=x.1/\x.1<=E/\aX B x.2.natAbs
def uD (z:Int):Int:=if z=0 then 0 else if z<0 then -1 else 1
def ar:List Int->Nat
 | []=>0
 | x::r=>x.toNat+18446744073709551616*ar r
def InWq (m:List Int):Prop:=∀ x ∈ m,0<=x/\x<18446744073709551616
def ae (n:Nat):List Int:=if h:n=0 then[]else((n%18446744073709551616:Nat):Int)::ae (n / 18446744073709551616)
termination_by n
decreasing_by omega
theorem bu:ae 0=[]:=by rw[ae]; simp
theorem bQ {n:Nat} (h:n ≠ 0):ae n=((n%18446744073709551616:Nat):Int)::ae (n / 18446744073709551616):=by rw[ae]; simp[h]
theorem aZ:∀ n,InWq (ae n):=by
 intro n;induction n using Nat.strongRecOn with
 | ind n ih=>
  by_cases h:n=0
  ·subst h; rw[bu]; intro x hx; cases hx
  ·rw[bQ h];intro x hx;rcases List.mem_cons.1 hx with rfl | hx
   ·omega
   ·exact ih (n / 18446744073709551616) (by omega) x hx
theorem aD:∀ n,ar (ae n)=n:=by
 intro n;induction n using Nat.strongRecOn with
 | ind n ih=>
  by_cases h:n=0
  ·subst h; rw[bu]; rfl
  ·rw[bQ h,ar,ih (n / 18446744073709551616) (by omega),aac];omega
theorem lS (a b:List Int):ar (a++b)=ar a+18446744073709551616 ^ a.length*ar b:=by
 induction a with
 | nil=>simp[ar]
 | cons x r ih=>
  rw[ab0,ar,ih,ar,aaK,aaj,aap,aab (18446744073709551616 ^ r.length) 18446744073709551616,aah];omega
theorem InWq.take {m:List Int} (h:InWq m) (n:Nat):InWq (m.take n):=λx hx=>h x (acX hx)
theorem InWq.drop {m:List Int} (h:InWq m) (n:Nat):InWq (m.drop n):=λx hx=>h x (acW hx)
theorem InWq.cons {x:Int} {m:List Int} (h:InWq (x::m)):(0<=x/\x<18446744073709551616)/\InWq m:=⟨h x (by simp),λy hy=>h y (by simp[hy])⟩
theorem InWq.at {m:List Int} (h:InWq m) {i:Nat}:0<=m.getD i 0/\m.getD i 0<18446744073709551616:=by
 rw[List.getD_eq_getElem?_getD];by_cases hi:i<m.length
 ·rw[List.getElem?_eq_getElem hi]; exact h _ (abi hi)
 ·rw[List.getElem?_eq_none (by omega)]; exact⟨by decide,by decide⟩
theorem ia:∀{m:List Int},InWq m->ar m<18446744073709551616 ^ m.length
 | [],_=>by simp[ar]
 | x::r,h=>by have ih:=ia h.cons.2;have hx:=h.cons.1;rw[ar,aaK,aaj];have:ar r+1<=18446744073709551616 ^ r.length:=ih;have:=aaa 18446744073709551616 this;omega
theorem xY:∀{m:List Int},InWq m->(∀ x,m.getLast? = some x->x ≠ 0)->ae (ar m)=m
 | [],_,_=>bu
 | [x],h,hl=>by
  have hx:=h.cons.1;have h0:x ≠ 0:=hl x rfl;have e:ar [x]=x.toNat:=by simp[ar]
  rw[e,bQ (by omega),aaC (by omega),bu,aai (by omega),acx hx.1]
 | x::y::r,h,hl=>by
  have hx:=h.cons.1;have ih:=xY h.cons.2 (λz hz=>hl z (by rw[List.getLast?_cons_cons]; exact hz));have hne:ar (y::r) ≠ 0:=by intro h0;rw[h0,bu]at ih; cases ih
  have e1:ar (x::y::r)=x.toNat+18446744073709551616*ar (y::r):=rfl;rw[e1,bQ (by omega)];have e2:(x.toNat+18446744073709551616*ar (y::r))%18446744073709551616=x.toNat:=by omega
  have e3:(x.toNat+18446744073709551616*ar (y::r)) / 18446744073709551616=ar (y::r):=by omega
  rw[e2,e3,ih,acx hx.1]
theorem xc {m:List Int} {i:Nat} (hi:i<m.length):ar (m.take (i+1))=ar (m.take i)+18446744073709551616 ^ i*(m.getD i 0).toNat:=by rw[abq hi,lS,aaO,abm (by omega),List.getD_eq_getElem?_getD,List.getElem?_eq_getElem hi];simp[ar]
theorem xb (n:Nat):ar (List.replicate n 0)=0:=by
 induction n with
 | zero=>rfl
 | succ n ih=>rw[aaT,ar,ih]; rfl
def dlq (S:Nat):Nat->List Int
 | 0=>[]
 | n+1=>dlq S n++[((S / 18446744073709551616 ^ n%18446744073709551616:Nat):Int)]
theorem ak (S:Nat):∀ n,(dlq S n).length=n
 | 0=>rfl
 | n+1=>by simp[dlq,ak S n]
theorem gl (S:Nat):∀ n,InWq (dlq S n)
 | 0=>λx hx=>by cases hx
 | n+1=>λx hx=>by
  rcases List.mem_append.1 hx with h | h
  ·exact gl S n x h
  ·simp only[adf]at h;subst h;omega
theorem nM (S:Nat):∀ n,ar (dlq S n)=S%18446744073709551616 ^ n
 | 0=>by simp[dlq,ar,acJ]
 | n+1=>by rw[dlq,lS,ak,nM S n,aaj,ac5];simp only[ar,aac,abt,aaF]
theorem rq (S n m:Nat) (h:n<m):(dlq S n++List.replicate (m - n) 0).set n ((S / 18446744073709551616 ^ n%18446744073709551616:Nat):Int)=dlq S (n+1)++List.replicate (m - (n+1)) 0:=by
 rw[acl _ _ (by rw[ak]; exact aak _),ak,aaH];have:m - n=(m - (n+1))+1:=by omega
 rw[this,aaT];simp[dlq]
theorem kX {S n:Nat} (h:S<18446744073709551616 ^ n):ae (ar (dlq S n))=ae S:=by rw[nM,aai h]
theorem aN {m:List Int} (i:Nat):ar (m.take (i+1))=ar (m.take i)+18446744073709551616 ^ i*(m.getD i 0).toNat:=by
 by_cases h:i<m.length
 ·exact xc h
 ·rw[dU (by omega),aav (by omega),aav (by omega)]; simp
theorem oq (b:List Int):∀ n,ar (b.take (bP b n))=ar (b.take n)
 | 0=>rfl
 | n+1=>by
  unfold bP;split
  ·rename_i h;rw[oq b n,aN,h]; simp
  ·rfl
theorem uH {b:List Int} (hb:InWq b):b.take (bP b b.length)=ae (ar b):=by have h1:=oq b b.length;rw[aaR]at h1;rw[<- h1,xY (hb.take _) (qe b b.length (aak _))]
theorem cG (T A i:Nat):(T+18446744073709551616 ^ i*A) / 18446744073709551616 ^ i=T / 18446744073709551616 ^ i+A:=aa5 _ _ (abg (by decide))
theorem DH (m:List Int) (i:Nat):ar m=ar (m.take i)+18446744073709551616 ^ (m.take i).length*ar (m.drop i):=by rw[<- lS,acP]
theorem bE (m:List Int) (i:Nat):∃ R,ar m=ar (m.take i)+18446744073709551616 ^ i*R:=by
 by_cases h:i<=m.length
 ·refine⟨ar (m.drop i),?_⟩;have:=DH m i
  rwa [aaO,abm h]at this
 ·exact⟨0,by rw[aav (by omega)]; simp⟩
theorem aU {m:List Int} (h:InWq m) (i:Nat):ar (m.take i)<18446744073709551616 ^ i:=by
 have h1:=ia (h.take i);have h2:(m.take i).length<=i:=by simp; omega
 exact aar h1 (aan (by decide) h2)
theorem ij {S T R i:Nat} (h:S=T+18446744073709551616 ^ (i+1)*R):S / 18446744073709551616 ^ i%18446744073709551616=T / 18446744073709551616 ^ i%18446744073709551616:=by rw[h,aaj,aah,cG,abp]
theorem FN (i:Nat):0<18446744073709551616 ^ i:=abg (by decide)
theorem Ai {P A B x y o R1 R2 D a b:Nat} (hA:A<P) (hB:B<P) (ho:o=if A<B then 1 else 0) (h1:a=A+P*x+P*18446744073709551616*R1) (h2:b=B+P*y+P*18446744073709551616*R2) (hD:(D:Int)=(a:Int) - (b:Int)) :
  ((D / P:Nat):Int)=(x:Int) - (y:Int) - (o:Int)+18446744073709551616*((R1:Int) - (R2:Int)):=by
 have he:∃ e:Nat,e<P/\(e:Int)=(A:Int) - (B:Int)+(P:Int)*(o:Int):=by
  rw[ho];split
  ·exact⟨A+P - B,by omega,by omega⟩
  ·exact⟨A - B,by omega,by omega⟩
 obtain⟨e,he1,he2⟩:=he;refine yw (e:=e) ?_ he1;have e1:(a:Int)=A+(P:Int)*x+18446744073709551616*((P:Int)*R1):=by rw[h1,aah,aaD]; simp
 have e2:(b:Int)=B+(P:Int)*y+18446744073709551616*((P:Int)*R2):=by rw[h2,aah,aaD]; simp
 have e3:(P:Int)*((x:Int) - (y:Int) - (o:Int)+18446744073709551616*((R1:Int) - (R2:Int)))=(P:Int)*x - (P:Int)*y - (P:Int)*o+(18446744073709551616*((P:Int)*R1) - 18446744073709551616*((P:Int)*R2)):=by rw[Int.mul_add,acy,acy,Int.mul_left_comm,acy,acy]
 rw[hD,e1,e2,e3,he2];omega
theorem cZ {x y:Nat} (h:x<=y):(ae x).length<=(ae y).length:=by
 induction y using Nat.strongRecOn generalizing x with
 | ind y ih=>
  by_cases hx:x=0
  ·subst hx; rw[bu]; simp
  ·rw[bQ hx,bQ (by omega:y ≠ 0)];simp only[aaK];have:=ih (y / 18446744073709551616) (by omega) (x:=x / 18446744073709551616) (acr h);omega
theorem qi:∀(w X:Nat),dlq (18446744073709551616 ^ w*X) w=List.replicate w 0:=by
 intro w;have key:∀ n,n<=w -> ∀ X,dlq (18446744073709551616 ^ w*X) n=List.replicate n 0:=by
  intro n;induction n with
  | zero=>intro _ X; rfl
  | succ n ih=>
   intro hn X;rw[dlq,ih (by omega),abM];have e:18446744073709551616 ^ w*X=18446744073709551616 ^ n*(18446744073709551616*(18446744073709551616 ^ (w - n - 1)*X)):=by rw[<- aah,<- aah,<- aaj,<- aal];congr 2; omega
   rw[e,aaJ _ (FN n),adl];rfl
 exact key w (aak _)
theorem fF:∀(j n:Nat),n<18446744073709551616 ^ j->(ae n).length<=j
 | 0,n,h=>by
  have:n=0:=by simp at h; exact h
  subst this; rw[bu]; exact aak _
 | j+1,n,h=>by
  by_cases h0:n=0
  ·subst h0; rw[bu]; simp
  ·rw[bQ h0,aaK];have:n / 18446744073709551616<18446744073709551616 ^ j:=ab9 (by rw[aaj]at h; omega);have:=fF j _ this;omega
theorem DG (V x Bk bk i k:Nat):V%18446744073709551616 ^ (i+k+1)+x*(Bk+18446744073709551616 ^ k*bk)*18446744073709551616 ^ i=(V%18446744073709551616 ^ (i+k)+x*Bk*18446744073709551616 ^ i)+18446744073709551616 ^ (i+k)*(V / 18446744073709551616 ^ (i+k)%18446744073709551616+x*bk):=by rw[Nat.mod_pow_succ,aal];grind
theorem CC (V x Bk bk i k:Nat):(V%18446744073709551616 ^ (i+k+1)+x*(Bk+18446744073709551616 ^ k*bk)*18446744073709551616 ^ i) / 18446744073709551616 ^ (i+k+1)=((V%18446744073709551616 ^ (i+k)+x*Bk*18446744073709551616 ^ i) / 18446744073709551616 ^ (i+k)+V / 18446744073709551616 ^ (i+k)%18446744073709551616+x*bk) / 18446744073709551616:=by rw[DG,aaj,<- aaf,aa5 _ _ (abg (by decide)),aaM]
theorem Bc (V x Bk bk i k R:Nat):(V+x*(Bk+18446744073709551616 ^ k*bk+18446744073709551616 ^ (k+1)*R)*18446744073709551616 ^ i) / 18446744073709551616 ^ (i+k)%18446744073709551616=((V%18446744073709551616 ^ (i+k)+x*Bk*18446744073709551616 ^ i) / 18446744073709551616 ^ (i+k)+V / 18446744073709551616 ^ (i+k)%18446744073709551616+x*bk)%18446744073709551616:=by
 have e:V+x*(Bk+18446744073709551616 ^ k*bk+18446744073709551616 ^ (k+1)*R)*18446744073709551616 ^ i=(V%18446744073709551616 ^ (i+k+1)+x*(Bk+18446744073709551616 ^ k*bk)*18446744073709551616 ^ i)+18446744073709551616 ^ (i+k+1)*(V / 18446744073709551616 ^ (i+k+1)+x*R):=by
  have h:=aaY V (18446744073709551616 ^ (i+k+1));have h2:18446744073709551616 ^ (i+k+1)=18446744073709551616 ^ (k+1)*18446744073709551616 ^ i:=by rw[<- aal]; congr 1; omega
  generalize V / 18446744073709551616 ^ (i+k+1)=q at *;generalize V%18446744073709551616 ^ (i+k+1)=r at *;rw[<- h,h2];grind
 rw[ij e,DG,aa5 _ _ (abg (by decide)),aaM]
theorem HI {V x Bk i k:Nat} (hx:x<18446744073709551616) (hB:Bk<18446744073709551616 ^ k):(V%18446744073709551616 ^ (i+k)+x*Bk*18446744073709551616 ^ i) / 18446744073709551616 ^ (i+k)<18446744073709551616:=by
 rw[aag (abg (by decide))];have h1:V%18446744073709551616 ^ (i+k)<18446744073709551616 ^ (i+k):=aao _ (abg (by decide));have h2:x*Bk<=18446744073709551615*18446744073709551616 ^ k:=aaV (by omega) (by omega);have h3:x*Bk*18446744073709551616 ^ i<=18446744073709551615*18446744073709551616 ^ (i+k):=by
  have:=aaa (18446744073709551616 ^ i) h2
  rwa [aah 18446744073709551615,<- aal,ab7 k i]at this
 omega
theorem qh (S:Nat) {L i:Nat} (h:i<L):(dlq S L).getD i 0=((S / 18446744073709551616 ^ i%18446744073709551616:Nat):Int):=by
 induction L with
 | zero=>omega
 | succ L ih=>
  show((dlq S L)++[_]).getD i 0=_;rw[List.getD_eq_getElem?_getD];by_cases hi:i<L
  ·rw[List.getElem?_append_left (by rw[ak]; exact hi),<- List.getD_eq_getElem?_getD,ih hi]
  ·have:i=L:=by omega
   subst this;rw[List.getElem?_append_right (by rw[ak]; exact aak _),ak,aaH]; rfl
theorem nN {b:List Int} {k:Nat}:ar (b.take (k+1))=ar (b.take k)+18446744073709551616 ^ k*(b.getD k 0).toNat:=aN k
theorem wc (U V L p:Nat) (h:p<L):(dlq U p++(dlq V L).drop p).set p ((U / 18446744073709551616 ^ p%18446744073709551616:Nat):Int)=dlq U (p+1)++(dlq V L).drop (p+1):=by rw[cU (by rw[ak]; exact h),bg _ _ _ _ _ (by rw[ak])];show _=(dlq U p++[_])++_;rw[aaq]; rfl
theorem CU (U V L p:Nat) (h:p<L):(dlq U p++(dlq V L).drop p).getD p 0=((V / 18446744073709551616 ^ p%18446744073709551616:Nat):Int):=by rw[cU (by rw[ak]; exact h),bU (by rw[ak]),qh V h]
theorem wb (U V L p:Nat) (h:p<=L):(dlq U p++(dlq V L).drop p).length=L:=by simp[ak]; omega
theorem EY {U L p:Nat} (hU:U<18446744073709551616 ^ p) (h:p<=L) {V:Nat} (hV:V<18446744073709551616 ^ p):dlq U p++(dlq V L).drop p=dlq U L:=by
 induction L with
 | zero=>
  have:p=0:=by omega
  subst this; rfl
 | succ L ih=>
  by_cases hp:p=L+1
  ·subst hp; rw[aaU (by rw[ak]; omega),aaI]
  ·have hpL:p<=L:=by omega
   have e:∀ X,X<18446744073709551616 ^ p->dlq X (L+1)=dlq X L++[0]:=by intro X hX;show dlq X L++[((X / 18446744073709551616 ^ L%18446744073709551616:Nat):Int)]=_;rw[aaC (aar hX (aan (by decide) hpL))]; rfl
   rw[e V hV,e U hU,aa_ (by rw[ak]; exact hpL),<- aaq,ih hpL]
theorem qy {a:List Int} (ha:InWq a) (i:Nat):ar (a.take i)<18446744073709551616 ^ i:=aU ha i
theorem qw {x y i j:Nat} (hx:x<18446744073709551616 ^ i) (hy:y<18446744073709551616 ^ j):x*y<18446744073709551616 ^ (i+j):=by rw[aal];exact adr hx hy
def ki (N:Nat) (l:List Int):Prop:=l.length+3<N/\l.length<=1099511627776
theorem yP {N:Nat} (b:List Int) (hN:b.length<N) (hs:b.length<9223372036854775807) (k:Kz2):uA N b k=k (bP b b.length):=by
 (unfold uA; rw[ac]; unfold PL)
 have key:∀ n,n<=b.length -> ∀ M,n<M->aj M (tK N b λU8=>((decide (0<=U8/\U8<=(((List.length b):Nat):Int)))&&(k ((Int.toNat U8) - 0)))) (n:Int)=k (bP b n):=by
  intro n;induction n with
  | zero=>
   intro _ M hM;cases M with
   | zero=>omega
   | succ M=>
    show tK N b _ ((0:Nat):Int) _=_;simp only[tK,bP];rw[Z8 (by omega:¬((0:Nat):Int)>0),show(false==true)=false from rfl,Z9,Z7 (by omega),abd];rfl
  | succ n ih=>
   intro hn M hM;cases M with
   | zero=>omega
   | succ M=>
    show tK N b _ ((n+1:Nat):Int) (aj M _)=_;have e:Int.toNat (((n+1:Nat):Int) - 1)=n:=by omega
    have e2:((n+1:Nat):Int) - 1=(n:Int):=by omega
    simp only[tK,e];rw[Z7 (by omega:((n+1:Nat):Int)>0),show(true==true)=true from rfl,Z_,aa Z5,aa Z6,aa (Z7 (by omega)),aa Z5,e2,ih (by omega) M (by omega),mR];by_cases h0:b.getD n 0=0
    ·have:(b.getD n 0==0)=true:=by simpa using h0
     rw[this,if_pos h0]; rfl
    ·have:(b.getD n 0==0)=false:=by simpa using h0
     rw[this,if_neg h0,Z9,Z7 (by omega),abd];rfl
 exact key b.length (aak _) N hN
theorem jL {N:Nat} (b:List Int) (hb:InWq b) (hN:b.length<N) (hs:b.length<9223372036854775807) (k:Kz5) :
  (uA N b λl=>(decide (0+l<=b.length))&&k (List.take l (List.drop 0 b)))=k (ae (ar b)):=by
 rw[yP b hN hs,abF,uH hb];have:=jk b b.length;rw[Z7 (by omega)]; rfl
theorem rD {N:Nat} (hN:1000<=N) (n:Nat) (hn:n<18446744073709551616) (k:Kz5):jf N (n:Int) k=k (ae n):=by
 unfold jf xD;have hw:InWq [(n:Int)]:=by intro x hx;simp only[abx,acd,or_false]at hx;subst hx; omega
 have hv:ar [(n:Int)]=n:=by simp only[ar]; omega
 have:=jL (N:=N) [(n:Int)] hw (by simp; omega) (by simp) k;rw[hv]at this;exact this
theorem vo {N:Nat} (l:List Int) (h:l.length<=1099511627776) (k:Kz5):pD N l k=k l:=by unfold pD OE;rw[aaZ,Z7 (by omega),abd]
theorem l7 (N:Nat) (l:List Int) (i:Nat) (hi:i<9223372036854775807) (k:Kz1):wL N l (i:Int) k=k (l.getD i 0):=by
 unfold wL OK;by_cases h:i<l.length
 ·rw[Z7 (by omega:(i:Int)<((l.length:Nat):Int)),Z_,aa Z6,aac]
 ·rw[Z8 (by omega:¬(i:Int)<((l.length:Nat):Int)),Z9,dU (by omega)]
theorem l5 (N:Nat) {x y c:Int} {a b d:Nat} (hx:x=(a:Int)) (hy:y=(b:Int)) (hz:c=(d:Int)) (hc:d<=1) (k:Ky3):sQ3 N x y c k=k (((a+b+d)%18446744073709551616:Nat):Int) (((a+b+d) / 18446744073709551616:Nat):Int):=by subst hx hy hz;show(decide (Int.toNat (d:Int)<=1)&&_)=_;rw[aac,Z7 hc]; rfl
theorem vn (N:Nat) {x y c:Int} {a b d:Nat} (hx:x=(a:Int)) (hy:y=(b:Int)) (hz:c=(d:Int)) (hc:d<=1) (k:Ky3):sQ4 N x y c k=k (((a+18446744073709551616 - b - d)%18446744073709551616:Nat):Int) (if a<b+d then 1 else 0):=by
 subst hx hy hz;show(decide (Int.toNat (d:Int)<=1)&&_)=_;rw[aac,Z7 hc];show k _ (cond (decide (a<b+d)) 1 0)=_;by_cases h:a<b+d
 ·rw[Z7 h,if_pos h]; rfl
 ·rw[Z8 h,if_neg h]; rfl
theorem Nk (a b:Nat):imm true (a:Int) (b:Int)=((max a b:Nat):Int):=by
 unfold imm; simp only[Z_];by_cases h:(b:Int)>a
 ·rw[Z7 h,Z_]; omega
 ·rw[Z8 h,Z9]; omega
theorem Ll {N:Nat} (a b:List Int) (ha:InWq a) (hb:InWq b) (hNa:ki N a) (hNb:ki N b) (k:Kz5):vy N a b k=k (ae (ar a+ar b)):=by
 (unfold vy; rw[ac]; unfold uM)
 obtain⟨a1,a2⟩:=hNa;obtain⟨b1,b2⟩:=hNb;rw[Nk]
 let L:=max a.length b.length
 have hLa:a.length<=L:=Nat.le_max_left _ _;have hLb:b.length<=L:=Nat.le_max_right _ _;have hLN:L+3<N:=by simp only[L]; omega
 have hLs:L<=1099511627776:=by simp only[L]; omega
 show(af .i64 ((L:Int)+1)&&_)=_;have eL:Int.toNat ((L:Int)+1)=L+1:=by omega
 rw[aa Z5,aa (bZ (by omega) (by omega) (by omega) (by omega)),eL]
 let S:=ar a+ar b
 let T:=λi=>ar (a.take i)+ar (b.take i)
 refine aH (λi=>(((T i / 18446744073709551616 ^ i:Nat):Int),(i:Int),dlq S i++List.replicate (L+1 - i) 0)) L (by simp[T,ar,dlq]) (by omega) (λi hi K=>?_) (λK=>?_)
 ·have hx:=ha.at (i:=i);have hy:=hb.at (i:=i);have hT:T (i+1)=T i+18446744073709551616 ^ i*((a.getD i 0).toNat+(b.getD i 0).toNat):=by simp only[T,aN,aap]; omega
  have hq:T (i+1) / 18446744073709551616 ^ i=T i / 18446744073709551616 ^ i+((a.getD i 0).toNat+(b.getD i 0).toNat):=by rw[hT,cG]
  have hc:T i / 18446744073709551616 ^ i<=1:=by
   have h1:=aU ha i;have h2:=aU hb i;have h3:T i<18446744073709551616 ^ i*2:=by simp only[T]; omega
   have:=(aag (abg (n:=i) (by decide:0<18446744073709551616))).2 (by rw[aab]; exact h3:T i<2*18446744073709551616 ^ i);omega
  have hdiv:T (i+1) / 18446744073709551616 ^ (i+1)=T (i+1) / 18446744073709551616 ^ i / 18446744073709551616:=by rw[aaj,aaf]
  have hdig:S / 18446744073709551616 ^ i%18446744073709551616=T (i+1) / 18446744073709551616 ^ i%18446744073709551616:=by obtain⟨R1,h1⟩:=bE a (i+1);obtain⟨R2,h2⟩:=bE b (i+1);refine ij (R:=R1+R2) ?_;simp only[S,T];rw[aap]; omega
  have hset:=rq S i (L+1) (by omega);have hlen:(dlq S i++List.replicate (L+1 - i) 0).length=L+1:=by simp[ak]; omega
  simp only[lW];rw[Z7 (by omega:(i:Int)<((max a.length b.length:Nat):Int)),Z_,l7 N a i (by omega),l7 N b i (by omega),l5 N (a:=(a.getD i 0).toNat) (b:=(b.getD i 0).toNat) (d:=T i / 18446744073709551616 ^ i) (by omega) (by omega) rfl hc,hlen,aa Z6,aa (Z7 (by omega)),aa Z5,aac];have e1:(a.getD i 0).toNat+(b.getD i 0).toNat+T i / 18446744073709551616 ^ i=T (i+1) / 18446744073709551616 ^ i:=by rw[hq]; omega
  rw[e1,<- hdig,<- hdiv,hset];rfl
 ·simp only[lW];rw[Z8 (by omega:¬(L:Int)<((max a.length b.length:Nat):Int)),Z9];have hT:T L=S:=by simp only[T,S]; rw[aav hLa,aav hLb]
  have hS:S<18446744073709551616 ^ (L+1):=by have h1:=aU ha L;have h2:=aU hb L;rw[aav hLa]at h1;rw[aav hLb]at h2;rw[aaj];simp only[S]; omega
  have hlen:(dlq S L++List.replicate (L+1 - L) 0).length=L+1:=by simp[ak]
  have hcl:S / 18446744073709551616 ^ L<18446744073709551616:=by rw[aag (abg (by decide)),aab,<- aaj]; exact hS
  have e2:((T L / 18446744073709551616 ^ L:Nat):Int)=((S / 18446744073709551616 ^ L%18446744073709551616:Nat):Int):=by rw[hT,aai hcl]
  have hset:=rq S L (L+1) (by omega);rw[e2,aac,hset,hlen,aa Z6,aa (Z7 (by omega)),aaH,aaL,aaI,
   jL _ (gl S _) (by rw[ak]; omega) (by rw[ak]; omega),kX hS]
theorem l6 {N:Nat} (a b:List Int) (ha:InWq a) (hb:InWq b) (hle:ar b<=ar a) (hN:ki N a) (k:Kz5):wM N a b k=k (ae (ar a - ar b)):=by
 obtain⟨hN1,hN2⟩:=hN
 (unfold wM; rw[ac]; unfold JT)
 rw[aa (bZ (by omega) (by omega) (by omega) (by omega)),aac]
 let D:=ar a - ar b
 let bo:=λi=>if ar (a.take i)<ar (b.take i)then(1:Nat)else 0
 refine aH (λi=>(((bo i:Nat):Int),(i:Int),dlq D i++List.replicate (a.length - i) 0)) a.length (by simp[bo,ar,dlq]) (by omega) (λi hi K=>?_) (λK=>?_)
 ·have hx:=ha.at (i:=i);have hy:=hb.at (i:=i);have hA:=aN (m:=a) i;have hB:=aN (m:=b) i;have hAl:=aU ha i;have hBl:=aU hb i;have hset:=rq D i a.length (by omega);have hl:(dlq D i++List.replicate (a.length - i) 0).length=a.length:=by simp[ak]; omega
  obtain⟨R1,h1⟩:=bE a (i+1);obtain⟨R2,h2⟩:=bE b (i+1);have hD:(D:Int)=(ar a:Int) - (ar b:Int):=by simp only[D]; omega
  have hPs:18446744073709551616 ^ (i+1)=18446744073709551616 ^ i*18446744073709551616:=aaj ..;have hbo:bo i<=1:=by simp only[bo]; split <;> omega
  have hbs:bo (i+1)=if (a.getD i 0).toNat<(b.getD i 0).toNat+bo i then 1 else 0:=by simp only[bo,hA,hB];exact mO _ _ _ _ _ hAl hBl
  have hq:((D / 18446744073709551616 ^ i:Nat):Int)=((a.getD i 0).toNat:Int) - ((b.getD i 0).toNat:Int) - (bo i:Int)+18446744073709551616*((R1:Int) - (R2:Int)):=by rw[hA,hPs]at h1;rw[hB,hPs]at h2;exact Ai hAl hBl rfl h1 h2 hD
  have hdig:((D / 18446744073709551616 ^ i%18446744073709551616:Nat):Int)=(((a.getD i 0).toNat:Int) - ((b.getD i 0).toNat:Int) - (bo i:Int))%18446744073709551616:=by rw[Int.natCast_emod,hq];exact Int.add_mul_emod_self_left _ _ _
  simp only[kO];rw[Z7 (by omega:(i:Int)<a.length),Z_,aa Z6,l7 N b i (by omega),aac,vn N (a:=(a.getD i 0).toNat) (b:=(b.getD i 0).toNat) (d:=bo i) (by omega) (by omega) rfl hbo,hl,aa Z6,aa (Z7 (by omega)),aa Z5];have e1:(((((a.getD i 0).toNat+18446744073709551616 - (b.getD i 0).toNat - bo i)%18446744073709551616:Nat)):Int)=((D / 18446744073709551616 ^ i%18446744073709551616:Nat):Int):=by rw[hdig]; omega
  have e2:(if (a.getD i 0).toNat<(b.getD i 0).toNat+bo i then(1:Int)else 0)=((bo (i+1):Nat):Int):=by rw[hbs]; split <;> rfl
  rw[e1,e2,hset];rfl
 ·simp only[kO];rw[Z8 (by omega:¬(a.length:Int)<a.length),Z9,aaH,aaL,aaI];have hS:D<18446744073709551616 ^ a.length:=by have:=ia ha; simp only[D]; omega
  rw[jL _ (gl D _) (by rw[ak]; omega) (by rw[ak]; omega),kX hS]
theorem zN {N:Nat} (a b:List Int) (ha:InWq a) (hb:InWq b) (hl:a.length=b.length) (hs:a.length<9223372036854775807) (k:Kz1) :
  ∀ n,n<=a.length -> ∀ M,n<M->aj M (tG N a b (λt4=>k t4) (k 0)) ((n:Int) - 1)=k (dx (ar (a.take n)) (ar (b.take n))):=by
 intro n;induction n with
 | zero=>
  intro _ M hM;cases M with
  | zero=>omega
  | succ M=>
   show tG N a b _ _ ((0:Nat) - 1:Int) _=_;simp[tG,dx,ar]
 | succ n ih=>
  intro hn M hM;cases M with
  | zero=>omega
  | succ M=>
   show tG N a b _ _ (((n+1:Nat):Int) - 1) (aj M _)=_;have e:(((n+1:Nat):Int) - 1)=(n:Int):=by omega
   have hx:=ha.at (i:=n);have hy:=hb.at (i:=n);have hA:=aN (m:=a) n;have hB:=aN (m:=b) n;have hAl:=aU ha n;have hBl:=aU hb n;rw[e];simp only[tG,aac];rw[hA,hB,Z7 (by omega:(n:Int)>=0),Z_,aa Z6,aa Z6,aa Z6,aa Z6,aa Z5,ih (by omega) M (by omega)];by_cases h0:a.getD n 0=b.getD n 0
   ·rw[show(a.getD n 0 != b.getD n 0)=false by simpa using h0,Z9,h0,CF]
   ·rw[show(a.getD n 0 != b.getD n 0)=true by simpa using h0,Z_];by_cases h1:a.getD n 0<b.getD n 0
    ·rw[Z7 h1,Z_,Kp hAl (by omega)]
    ·rw[Z8 h1,Z9,Ko hBl (by omega)]
theorem im {N:Nat} (x y:Nat) (hx:ki N (ae x)) (hy:ki N (ae y)) (k:Kz1):AW N (ae x) (ae y) k=k (dx x y):=by
 (unfold AW; rw[ac]; unfold JB)
 obtain⟨x1,x2⟩:=hx;obtain⟨y1,y2⟩:=hy;by_cases h:(ae x).length=(ae y).length
 ·have e:(((ae x).length:Int) != (ae y).length)=false:=by rw[h]; simp
  rw[e,Z9,aa Z5,zN (ae x) (ae y) (aZ x) (aZ y) h (by omega) k _ (aak _) N (by omega),aaR,h,aaR,aD,aD]
 ·have e:(((ae x).length:Int) != (ae y).length)=true:=by simp; omega
  rw[e,Z_];by_cases h1:(ae x).length<(ae y).length
  ·rw[Z7 (by omega),Z_];have:x<y:=by
    rcases aa0 x y with h2 | h2
    ·exact h2
    ·have:=cZ h2; omega
   unfold dx; rw[if_pos this]
  ·rw[Z8 (by omega),Z9];have:¬ x<=y:=λh2=>by have:=cZ h2; omega
   unfold dx; rw[if_neg (by omega),if_neg (by omega)]
def qo (z:Int) (k:Ky2):Bool:=k (decide (z<0)) (ae z.natAbs)
theorem nB (n:Nat):decide (((ae n).length:Int)>0)=decide (n ≠ 0):=by
 by_cases h:n=0
 ·subst h; rw[bu]; simp
 ·rw[bQ h,aaK,Z7 (by omega),Z7 h]
theorem DQ (g:Bool) (n:Nat) (k:Ky2):k (sg g n) (ae n)=qo (ba g n) k:=by
 unfold qo ba sg;cases g
 ·simp only[aaX,aaG,acM,aa4];rw[Z8 (by omega)]
 ·simp only[abI,abd,acN,aa4];congr 1;by_cases h:n=0
  ·subst h; rfl
  ·rw[Z7 h,Z7 (by omega)]
theorem LD (g:Bool) (n:Nat) (k:Ky2):cond (g==true) (k (decide (((ae n).length:Int)>0)) (ae n)) (k false (ae n))=qo (ba g n) k:=by rw[nB,<- DQ];cases g <;> rfl
theorem Fu {N:Nat} (g b:Bool) (n:Nat) (k:Ky2):BT N g (ae n) b (λcr=>k cr (ae n))=qo (ba g n) k:=LD g n k
theorem mo {N:Nat} (g b:Bool) (l:List Int) (n:Nat) (k:Ky2):I0 N g (ae n) b l (λcr=>k cr (ae n))=qo (ba g n) k:=LD g n k
theorem F8 (g1 g2:Bool) (n1 n2:Nat) (k:Ky2) :
  cond (g1==g2) (qo (ba g2 (n1+n2)) k) (cond (decide (dx n1 n2>=0)) (qo (ba g1 (n1 - n2)) k) (qo (ba g2 (n2 - n1)) k))=qo (ba g1 n1+ba g2 n2) k:=by
 rw[rk];have key:∀ a b:Int,a=b->qo a k=qo b k:=λa b h=>by rw[h]
 cases g1 <;> cases g2 <;> simp only[ba] <;> by_cases h:n2<=n1 <;> simp only[h,acZ,ade,Z_,Z9,abZ,aaX,abI,aaG,(by decide:(false==true)=false),(by decide:(true==false)=false)] <;> refine key _ _ ?_ <;> omega
theorem Ct (n:Nat):aB .and .u64 (n:Int) 4294967295=((n%4294967296:Nat):Int):=by
 have h:=jw n 32 (by decide);have e1:((2 ^ 32 - 1:Nat):Int)=4294967295:=by decide
 have e2:(2:Nat) ^ 32=4294967296:=by decide
 rw[e1,e2]at h;exact h
theorem RD (p00 p10 p01 p11:Nat):(p11*18446744073709551616+(p10+p01)*4294967296+p00) / 18446744073709551616=p11+(p10+p00 / 4294967296) / 4294967296+((p10+p00 / 4294967296)%4294967296+p01) / 4294967296:=by omega
theorem ID (x y:Nat):x*y=(x / 4294967296)*(y / 4294967296)*18446744073709551616+((x / 4294967296)*(y%4294967296)+(x%4294967296)*(y / 4294967296))*4294967296+(x%4294967296)*(y%4294967296):=by have hx:=aaY x 4294967296;have hy:=aaY y 4294967296;generalize x / 4294967296=a at *;generalize x%4294967296=b at *;generalize y / 4294967296=c at *;generalize y%4294967296=d at *;subst hx hy;grind
theorem vm (N:Nat) {x y:Nat} (hx:x<18446744073709551616) (hy:y<18446744073709551616) (k:Ky3):DY N (x:Int) (y:Int) k=k ((x*y / 18446744073709551616:Nat):Int) ((x*y%18446744073709551616:Nat):Int):=by
 (unfold DY; rw[ac]; unfold Jy)
 have fx:Int.fdiv (x:Int) (2 ^ 32)=((x / 4294967296:Nat):Int):=by rw[jA]; rfl
 have fy:Int.fdiv (y:Int) (2 ^ 32)=((y / 4294967296:Nat):Int):=by rw[jA]; rfl
 rw[Ct,Ct,fx,fy];have hs:=ID x y;have b0:x / 4294967296<=4294967295:=by omega
 have b1:x%4294967296<=4294967295:=by omega
 have b2:y / 4294967296<=4294967295:=by omega
 have b3:y%4294967296<=4294967295:=by omega
 have m00:=aaV b1 b3;have m10:=aaV b0 b3;have m01:=aaV b1 b2;have m11:=aaV b0 b2;have hh:=RD ((x%4294967296)*(y%4294967296)) ((x / 4294967296)*(y%4294967296)) ((x%4294967296)*(y / 4294967296)) ((x / 4294967296)*(y / 4294967296));rw[<- hs]at hh;rw[<- aat,<- aat,<- aat,<- aat,<- aat];have hlt:x*y<=18446744073709551615*18446744073709551615:=aaV (by omega) (by omega);generalize x*y=P at *;generalize (x%4294967296)*(y%4294967296)=p00 at *;generalize (x / 4294967296)*(y%4294967296)=p10 at *;generalize (x%4294967296)*(y / 4294967296)=p01 at *;generalize (x / 4294967296)*(y / 4294967296)=p11 at *;have t1:IntKind.wrap .u64 (IntKind.wrap .u64 (p10:Int)+Int.fdiv (IntKind.wrap .u64 (p00:Int)) (2 ^ 32))=((p10+p00 / 4294967296:Nat):Int):=by simp only[am,jA]; omega
 rw[t1,Ct];congr 1
 ·rw[hh];simp only[am,jA];omega
theorem yM (N:Nat) {x y c d:Int} {a b e f:Nat} (hx:x=(a:Int)) (hy:y=(b:Int)) (hc:c=(e:Int)) (hd:d=(f:Int)) (ha:a<18446744073709551616) (hb:b<18446744073709551616) (he:e<18446744073709551616) (hf:f<18446744073709551616) (k:Ky3) :
  kw N x y c d k=k (((a*b+e+f) / 18446744073709551616:Nat):Int) (((a*b+e+f)%18446744073709551616:Nat):Int):=by
 subst hx hy hc hd
 (unfold kw; rw[ac]; unfold sx)
 have hlt:a*b<=18446744073709551615*18446744073709551615:=aaV (by omega) (by omega);rw[vm N ha hb];generalize a*b=P at *;rw[l5 N (c:=0) (a:=P%18446744073709551616) (b:=e) (d:=0) rfl rfl rfl (by omega),l5 N (c:=0) (a:=(P%18446744073709551616+e+0)%18446744073709551616) (b:=f) (d:=0) rfl rfl rfl (by omega)];congr 1
 ·simp only[am]; omega
 ·omega
theorem Fp {N:Nat} (a b:List Int) (ha:InWq a) (hb:InWq b) (hN:a.length+b.length+2<N) (hs:a.length+b.length<=1099511627776) (k:Kz5):xe N a b k=k (ae (ar a*ar b)):=by
  (unfold xe; rw[ac]; unfold Qa)
  by_cases a0:a.length=0
  · have:a=[]:=List.length_eq_zero_iff.1 a0
    subst this;show k []=k (ae (0*ar b));rw[abr,bu]
  by_cases b0:b.length=0
  · have:b=[]:=List.length_eq_zero_iff.1 b0
    subst this;have e:(((a.length:Nat):Int)==0)=false:=by simp; intro h; subst h; simp at a0
    rw[e,show(false==false)=true from rfl,Z_];show k []=k (ae (ar a*0));rw[abt,bu]
  have e0:(((a.length:Nat):Int)==0)=false:=by simp; intro h; subst h; simp at a0
  have e1:(((b.length:Nat):Int)==0)=false:=by simp; intro h; subst h; simp at b0
  rw[e0,e1,show(false==false)=true from rfl,Z_,Z9];have eL:Int.toNat (((a.length:Nat):Int)+((b.length:Nat):Int))=a.length+b.length:=by omega
  rw[aa Z5,aa (bZ (by omega) (by omega) (by omega) (by omega)),eL]
  let L:=a.length+b.length
  let B:=ar b
  have hB:B<18446744073709551616 ^ b.length:=ia hb;refine aH (λi=>((i:Int),dlq (ar (a.take i)*B) L)) a.length ?_ (by omega) (λi hi K=>?_) (λK=>?_)
  · show((0:Int),List.replicate L (0:Int))=(((0:Nat):Int),dlq (ar (a.take 0)*B) L)
    have:=qi L 0;rw[abt]at this;rw[acu,show ar []=0 from rfl,abr,this]; rfl
  · simp only[j5]
    rw[Z7 (by omega:(i:Int)<a.length),Z_,aa Z6,aac];have hx:=ha.at (i:=i)
    let V:=ar (a.take i)*B
    let x:=(a.getD i 0).toNat
    let U:=ar (a.take (i+1))*B
    have hU:U=V+x*B*18446744073709551616 ^ i:=by simp only[U,V,x];rw[nN];grind
    have hV:V<18446744073709551616 ^ (i+b.length):=qw (qy ha i) hB;have hUl:U<18446744073709551616 ^ (i+1+b.length):=qw (qy ha (i+1)) hB
    let c:=λj=>(V%18446744073709551616 ^ (i+j)+x*ar (b.take j)*18446744073709551616 ^ i) / 18446744073709551616 ^ (i+j)
    refine aH (λj=>(((c j:Nat):Int),(j:Int),dlq U (i+j)++(dlq V L).drop (i+j))) b.length ?_ (by omega) (λj hj K'=>?_) (λK'=>?_)
    · show((0:Int),(0:Int),dlq V L)=_
      have h0:c 0=0:=by simp only[c,acu,show ar []=0 from rfl,abt,abr,aaF];exact aaC (aao _ (abg (by decide)))
      have hlow:dlq U i=dlq V i:=by
        have:∀ n,n<=i->dlq U n=dlq V n:=by
          intro n;induction n with
          | zero=>intro _; rfl
          | succ n ih=>
            intro hn;show dlq U n++[_]=dlq V n++[_];rw[ih (by omega)];congr 3;have:U=V+18446744073709551616 ^ (n+1)*(x*B*18446744073709551616 ^ (i - (n+1))):=by rw[hU,aaD,<- aal,show n+1+(i - (n+1))=i by omega]
            exact ij this
        exact this i (aak _)
      have hsp:dlq V i++(dlq V L).drop i=dlq V L:=by
        have:∀ n,i<=n->dlq V i++(dlq V n).drop i=dlq V n:=by
          intro n;induction n with
          | zero=>intro h; have:i=0:=(by omega); subst this; rfl
          | succ n ih=>
            intro h;by_cases hn:i=n+1
            · subst hn; rw[aaU (by rw[ak]; omega),aaI]
            · show dlq V i++(dlq V n++[_]).drop i=dlq V n++[_]
              rw[aa_ (by rw[ak]; omega),<- aaq,ih (by omega)]
        exact this L (by simp only[L]; omega)
      rw[h0,aaF,hlow,hsp]; rfl
    · have hy:=hb.at (i:=j)
      have hp:i+j<L:=by simp only[L]; omega
      have hlen:=wb U V L (i+j) (by omega);have hget:=CU U V L (i+j) hp;have hset:=wc U V L (i+j) hp;have hc:=HI (V:=V) (x:=x) (i:=i) (k:=j) (Bk:=ar (b.take j)) (by simp only[x]; omega) (qy hb j);have hstep:=CC V x (ar (b.take j)) (b.getD j 0).toNat i j;obtain⟨R,hR⟩:=bE b (j+1);have hdig:=Bc V x (ar (b.take j)) (b.getD j 0).toNat i j R;rw[<- nN]at hstep hdig;rw[<- hR]at hdig;have hUe:V+x*ar b*18446744073709551616 ^ i=U:=hU.symm;rw[hUe]at hdig;have hxy:x*(b.getD j 0).toNat<=18446744073709551615*18446744073709551615:=aaV (by simp only[x]; omega) (by omega);have eidx:Int.toNat ((i:Int)+(j:Int))=i+j:=by omega
      have hcj:∀ n,c n=(V%18446744073709551616 ^ (i+n)+x*ar (b.take n)*18446744073709551616 ^ i) / 18446744073709551616 ^ (i+n):=λ_=>rfl
      have hax:a.getD i 0=(x:Int):=by simp only[x]; omega
      have hby:b.getD j 0=((b.getD j 0).toNat:Int):=by omega
      have ec1:c (j+1)=(c j+V / 18446744073709551616 ^ (i+j)%18446744073709551616+x*(b.getD j 0).toNat) / 18446744073709551616:=hstep;have ed:U / 18446744073709551616 ^ (i+j)%18446744073709551616=(c j+V / 18446744073709551616 ^ (i+j)%18446744073709551616+x*(b.getD j 0).toNat)%18446744073709551616:=hdig;have hcl:c j<18446744073709551616:=hc;rw[ed]at hset;have vlt:V / 18446744073709551616 ^ (i+j)%18446744073709551616<18446744073709551616:=aao _ (by decide);have hxl:x<18446744073709551616:=by simp only[x]; omega
      have hyl:(b.getD j 0).toNat<18446744073709551616:=by omega
      simp only[j6,aac,eidx,hlen];rw[Z7 (by omega:(j:Int)<((b.length:Nat):Int)),Z_,aa Z6,aa Z5,aa Z5,aa Z6,aa (Z7 (by omega)),yM N hax hby hget rfl hxl hyl vlt hcl,aa Z6,aa (Z7 (by omega)),aa Z5];rw[show i+(j+1)=i+j+1 by omega,<- hset];have ez:x*(b.getD j 0).toNat+V / 18446744073709551616 ^ (i+j)%18446744073709551616+c j=c j+V / 18446744073709551616 ^ (i+j)%18446744073709551616+x*(b.getD j 0).toNat:=by omega
      rw[ez,ec1];rfl
    · simp only[j6]
      rw[Z8 (by omega:¬(b.length:Int)<b.length),Z9];have hlen:=wb U V L (i+b.length) (by simp only[L]; omega);have hset:=wc U V L (i+b.length) (by simp only[L]; omega);have eidx:Int.toNat ((i:Int)+(b.length:Int))=i+b.length:=by omega
      have hLe:i+b.length<L:=by simp only[L]; omega
      have hc:c b.length=U / 18446744073709551616 ^ (i+b.length):=by simp only[c];rw[aaR,aai hV,hU]
      have hcl:U / 18446744073709551616 ^ (i+b.length)<18446744073709551616:=by
        rw[aag (abg (by decide))];have:i+1+b.length=i+b.length+1:=by omega
        rw[this,aaj]at hUl;omega
      have ew:((c b.length:Nat):Int)=((U / 18446744073709551616 ^ (i+b.length)%18446744073709551616:Nat):Int):=by rw[hc,aai hcl]
      have hfin:=EY (U:=U) (V:=V) (L:=L) (p:=i+b.length+1) (by rw[show i+b.length+1=i+1+b.length by omega]; exact hUl) (by omega) (aar hV (aan (by decide) (by omega)));rw[aa Z5,eidx,hlen,aa Z6,aa (Z7 (by omega)),aa Z5,ew,hset,hfin];rfl
  · simp only[j5]
    rw[Z8 (by omega:¬(a.length:Int)<a.length),Z9,aaR,jL _ (gl _ _) (by rw[ak]; simp only[L]; omega) (by rw[ak]; simp only[L]; omega)];rw[kX (qw (ia ha) hB)]
theorem BO (n:Nat):2 ^ n=18446744073709551616 ^ (n / 64)*2 ^ (n%64):=by
 have e:(18446744073709551616:Nat)=2 ^ 64:=by decide
 rw[e,<- ac7,<- aal];congr 1; omega
theorem bd (i:Nat):0<18446744073709551616 ^ i:=abg (by decide)
theorem Ij {N:Nat} (m:List Int) (hm:InWq m) (n:Nat) (hn:n<4294967296) (hN:m.length+n / 64+4<N) (hs:m.length<=1099511627776) (k:Kz5):tC N m n k=k (ae (ar m*2 ^ n)):=by
 (unfold tC; rw[ac]; unfold sy)
 by_cases h0:m.length=0
 ·have:m=[]:=List.length_eq_zero_iff.1 h0;subst this;show k []=k (ae (0*2 ^ n));rw[abr,bu]
 ·have e0:((m.length:Int)==0)=false:=by simp; intro h; subst h; simp at h0
  have ew:IntKind.wrap .u64 (Int.tdiv (n:Int) 64)=((n / 64:Nat):Int):=by rw[am,abb (by omega)]; omega
  have es:Int.tmod (n:Int) 64=((n%64:Nat):Int):=by rw[aa3 (by omega)]; rfl
  rw[e0,Z9,ew,es];have hw6:n / 64<67108864:=by omega
  generalize hw:n / 64=w at *;generalize hsh:n%64=s at *;have hs32:s<64:=by omega
  have hp2:2 ^ n=18446744073709551616 ^ w*2 ^ s:=by rw[BO,hw,hsh]
  have hs0:0<2 ^ s:=aam s;have hs1:2 ^ s*2 ^ (64 - s)=18446744073709551616:=by rw[<- aal,show s+(64 - s)=64 by omega]
  have elen:Int.toNat (((w:Nat):Int)+(m.length:Int)+1)=w+m.length+1:=by omega
  rw[aa Z5,aa Z5,aa Z5,aa (bZ (by omega) (by omega) (by omega) (by omega)),elen]
  let V:=ar m*2 ^ n
  let X:=ar m*2 ^ s
  have hVX:V=18446744073709551616 ^ w*X:=by simp only[V,X]; rw[hp2,aaD]
  let T:=λi=>ar (m.take i)*2 ^ s
  let c:=λi=>T i / 18446744073709551616 ^ i
  have hcl:∀ i,c i<2 ^ s:=by intro i;simp only[c,T];rw[aag (bd i),aab];exact abh (aU hm i) hs0
  refine aH (λi=>((i:Int),dlq V (w+i)++((c i:Nat):Int)::List.replicate (m.length - i) 0)) m.length ?_ (by omega) (λi hi K=>?_) (λK=>?_)
  ·congr 1;show List.replicate (w+m.length+1) (0:Int)=dlq V w++((c 0:Nat):Int)::List.replicate m.length 0;rw[hVX,qi];have hc0:c 0=0:=by simp[c,T,ar]
   rw[hc0];have:w+m.length+1=w+(m.length+1):=by omega
   rw[this,<- abS,aaT]; rfl
  ·have hx:=hm.at (i:=i);have hT:T (i+1)=T i+18446744073709551616 ^ i*((m.getD i 0).toNat*2 ^ s):=by simp only[T,aN,aaz,aah]
   have hq:T (i+1) / 18446744073709551616 ^ i=c i+(m.getD i 0).toNat*2 ^ s:=by rw[hT,cG]
   have hci:c i<2 ^ s:=hcl i;have hc1:c (i+1)=(c i+(m.getD i 0).toNat*2 ^ s) / 18446744073709551616:=by rw[<- hq]; simp only[c]; rw[aaj,aaf]
   have hdig:V / 18446744073709551616 ^ (w+i)%18446744073709551616=(c i+(m.getD i 0).toNat*2 ^ s)%18446744073709551616:=by rw[<- hq,hVX,aal,<- aaf,aaJ _ (bd w)];obtain⟨R,hR⟩:=bE m (i+1);refine ij (R:=R*2 ^ s) ?_;simp only[X,T];rw[hR,aaz,aah]
   have hrep:List.replicate (m.length - i) (0:Int)=0::List.replicate (m.length - (i+1)) 0:=by rw[show m.length - i=(m.length - (i+1))+1 by omega,aaT]
   have hdl:=ak V (w+i);have ei:Int.toNat ((w:Int)+(i:Int))=w+i:=by omega
   have ei1:Int.toNat ((w:Int)+(i:Int)+1)=w+i+1:=by omega
   have emin:min s 64=s:=by omega
   have e64:min (Int.toNat (IntKind.wrap .u64 (64 - (s:Int)))) 64=64 - s:=by rw[am]; omega
   simp only[eA,aac,ei,ei1,emin,e64];rw[hrep,bU hdl.symm,bg _ _ _ _ _ hdl.symm];have hmx:m.getD i 0=(((m.getD i 0).toNat:Nat):Int):=by omega
   rw[hmx];generalize hxx:(m.getD i 0).toNat=x at *;have hx32:x<18446744073709551616:=by omega
   have hlow:x*2 ^ s%18446744073709551616=2 ^ s*(x%2 ^ (64 - s)):=by
    have e:x*2 ^ s%(2 ^ s*2 ^ (64 - s))=2 ^ s*(x%2 ^ (64 - s)):=by rw[aab x]; exact ab1 _ _ _
    rwa [hs1]at e
   have hsum:2 ^ s*(x%2 ^ (64 - s))+c i<18446744073709551616:=by have h1:x%2 ^ (64 - s)+1<=2 ^ (64 - s):=aao _ (aam _);have h2:=aae (2 ^ s) h1;rw[hs1,aap]at h2;omega
   have epw:(x:Int)*2 ^ s=((x*2 ^ s:Nat):Int):=by rw[aat,abA]; rfl
   have eor:aB .or .u64 ((c i:Nat):Int) (IntKind.wrap .u64 ((x:Int)*2 ^ s))=((V / 18446744073709551616 ^ (w+i)%18446744073709551616:Nat):Int):=by
    have e1:IntKind.wrap .u64 ((x*2 ^ s:Nat):Int)=((2 ^ s*(x%2 ^ (64 - s)):Nat):Int):=by rw[<- hlow,am]; omega
    rw[epw,e1,cw _ _ s hci hsum,hdig];omega
   have ehi:Int.fdiv (x:Int) (2 ^ (64 - s))=((c (i+1):Nat):Int):=by
    have e2:(2:Int) ^ (64 - s)=((2 ^ (64 - s):Nat):Int):=by rw[abA]; rfl
    rw[e2,jO,hc1];have:(c i+x*2 ^ s) / 18446744073709551616=x / 2 ^ (64 - s):=by rw[<- hs1,<- aaf,aab x,aa5 _ _ hs0,aaC hci,aay]
    rw[this]
   rw[eor,ehi];have hl1:∀(a b:Int) (ys:List Int),(dlq V (w+i)++a::b::ys).length=w+i+2+ys.length:=by intro a b ys; simp[hdl]; omega
   have hset2:(dlq V (w+i)++((V / 18446744073709551616 ^ (w+i)%18446744073709551616:Nat):Int)::0::List.replicate (m.length - (i+1)) 0).set (w+i+1) ((c (i+1):Nat):Int)=dlq V (w+(i+1))++((c (i+1):Nat):Int)::List.replicate (m.length - (i+1)) 0:=by
    have:dlq V (w+i)++((V / 18446744073709551616 ^ (w+i)%18446744073709551616:Nat):Int)::0::List.replicate (m.length - (i+1)) 0=dlq V (w+(i+1))++0::List.replicate (m.length - (i+1)) 0:=by rw[<- aaM,dlq]; simp
    rw[this];exact bg _ _ _ _ _ (by rw[ak]; omega)
   rw[hset2,hl1,hl1];simp only[abw];rw[Z7 (by omega:(i:Int)<((m.length:Nat):Int)),Z_,aa Z6,aa Z5,aa Z6,aa (Z7 (by omega)),aa (Z7 (by omega)),aa Z6,aa (Z7 (by omega)),aa Z5,aa Z5,aa (Z7 (by rw[am]; omega)),aa Z6,aa (Z7 (by omega)),aa Z5];rfl
  ·simp only[eA];rw[Z8 (by omega:¬(m.length:Int)<m.length),Z9,aaH,aaL];have hV:V<18446744073709551616 ^ (w+m.length+1):=by
    have h1:=ia hm;simp only[V];rw[hp2,aaj,aal,aaD,aah];refine abh ?_ (bd w);have hs2:2 ^ s<=18446744073709551616:=by rw[<- hs1]; exact aa7 _ (aam _)
    exact aaS h1 hs2 (by decide)
   have hT:T m.length=X:=by simp only[T,X]; rw[aaR]
   have hend:dlq V (w+m.length)++[((c m.length:Nat):Int)]=dlq V (w+m.length+1):=by
    rw[dlq];have:c m.length=V / 18446744073709551616 ^ (w+m.length)%18446744073709551616:=by
     have hX:V / 18446744073709551616 ^ (w+m.length)=X / 18446744073709551616 ^ m.length:=by rw[hVX,aal,<- aaf,aaJ _ (bd w)]
     have h2:=hcl m.length;have hs2:2 ^ s<=18446744073709551616:=by rw[<- hs1]; exact aa7 _ (aam _)
     rw[hX,<- hT];exact(aai (by show c m.length<_; omega)).symm
    rw[this]
   rw[hend,jL _ (gl V _) (by rw[ak]; omega) (by rw[ak]; omega),kX hV]
theorem me:∀(i V:Nat),(ae V).getD i 0=((V / 18446744073709551616 ^ i%18446744073709551616:Nat):Int)
 | i,V=>by
  by_cases h:V=0
  ·subst h; rw[bu]; simp
  ·rw[bQ h];cases i with
   | zero=>simp
   | succ i=>
    show(ae (V / 18446744073709551616)).getD i 0=_;rw[me i (V / 18446744073709551616),aaj,aab,<- aaf]
theorem rz {l:List Int} {n i:Nat} (h:i<n):(l.take n).getD i 0=l.getD i 0:=by rw[List.getD_eq_getElem?_getD,List.getD_eq_getElem?_getD,List.getElem?_take,if_pos h]
theorem x_ {m:List Int} (hm:InWq m) (j:Nat):∃ R,ar m / 18446744073709551616 ^ j=(m.getD j 0).toNat+18446744073709551616*(m.getD (j+1) 0).toNat+18446744073709551616*18446744073709551616*R:=by
 obtain⟨R,hR⟩:=bE m (j+2);refine⟨R,?_⟩;rw[hR,aN,aN];simp only[aaj];have e:ar (m.take j)+18446744073709551616 ^ j*(m.getD j 0).toNat+18446744073709551616 ^ j*18446744073709551616*(m.getD (j+1) 0).toNat+18446744073709551616 ^ j*18446744073709551616*18446744073709551616*R
   = ar (m.take j)+18446744073709551616 ^ j*((m.getD j 0).toNat+18446744073709551616*(m.getD (j+1) 0).toNat+18446744073709551616*18446744073709551616*R):=by
  rw[aap,aap,aah,aah,aah,aah]; omega
 rw[e,cG,aaC (aU hm j),aay]
theorem A3 {x y s:Nat} (hs:s<64) (hx:x<18446744073709551616) (hy:y<18446744073709551616):aB .or .u64 (Int.fdiv (x:Int) (2 ^ s)) (IntKind.wrap .u64 ((y:Int)*2 ^ (64 - s)))=(((x+18446744073709551616*y) / 2 ^ s%18446744073709551616:Nat):Int):=by
 have hs0:0<2 ^ s:=aam s;have hs1:2 ^ s*2 ^ (64 - s)=18446744073709551616:=by rw[<- aal,show s+(64 - s)=64 by omega]
 have e1:Int.fdiv (x:Int) (2 ^ s)=((x / 2 ^ s:Nat):Int):=by
  have e2:(2:Int) ^ s=((2 ^ s:Nat):Int):=by rw[abA]; rfl
  rw[e2,jO]
 have e3:(y:Int)*2 ^ (64 - s)=((y*2 ^ (64 - s):Nat):Int):=by rw[aat,abA]; rfl
 have hlow:y*2 ^ (64 - s)%18446744073709551616=2 ^ (64 - s)*(y%2 ^ s):=by
  have e:2 ^ (64 - s)*y%(2 ^ (64 - s)*2 ^ s)=2 ^ (64 - s)*(y%2 ^ s):=ab1 _ _ _
  rwa [aab (2 ^ (64 - s)) (2 ^ s),hs1,aab (2 ^ (64 - s)) y]at e
 have e4:IntKind.wrap .u64 ((y*2 ^ (64 - s):Nat):Int)=((2 ^ (64 - s)*(y%2 ^ s):Nat):Int):=by rw[<- hlow,am]; omega
 have hxl:x / 2 ^ s<2 ^ (64 - s):=by rw[aag hs0,aab,hs1]; exact hx
 have hsum:2 ^ (64 - s)*(y%2 ^ s)+x / 2 ^ s<18446744073709551616:=by have h1:y%2 ^ s+1<=2 ^ s:=aao _ hs0;have h2:=aae (2 ^ (64 - s)) h1;rw[aab (2 ^ (64 - s)) (2 ^ s),hs1,aap]at h2;omega
 rw[e1,e3,e4,cw _ _ (64 - s) hxl hsum];congr 1;have e5:(x+18446744073709551616*y) / 2 ^ s=x / 2 ^ s+2 ^ (64 - s)*y:=by rw[<- hs1,aah,aa5 _ _ hs0]
 rw[e5];have e6:y=y%2 ^ s+2 ^ s*(y / 2 ^ s):=(acm _ _).symm;have e7:2 ^ (64 - s)*y=2 ^ (64 - s)*(y%2 ^ s)+18446744073709551616*(y / 2 ^ s):=by
  conv=>lhs; rw[e6]
  rw[aap,<- aah,aab (2 ^ (64 - s)) (2 ^ s),hs1]
 rw[e7,<- aaM,abp,aai (a:=x / 2 ^ s+2 ^ (64 - s)*(y%2 ^ s)) (b:=18446744073709551616) (by rw[ab7]; exact hsum)];exact ab7 _ _
theorem y_:∀ n:Nat,n ≠ 0 -> ∃ t c,n=2 ^ t*(2*c+1):=by
 intro n;induction n using Nat.strongRecOn with
 | ind n ih=>
  intro h0;by_cases h:n%2=0
  ·obtain⟨t,c,hc⟩:=ih (n / 2) (by omega) (by omega);exact⟨t+1,c,by rw[aaj,aab (2 ^ t) 2,aah,<- hc]; omega⟩
  ·exact⟨0,n / 2,by rw[abV,abD]; omega⟩
theorem rY {a b:Nat} (ha:a<18446744073709551616) (hb:b<18446744073709551616):aB .and .u64 (a:Int) (b:Int)=((a &&& b:Nat):Int):=by
 unfold aB pp;simp only[aaW];have h64:(2:Nat) ^ 64=18446744073709551616:=by decide
 have e:((BitVec.ofInt (IntKind.bits .u64) (a:Int)) &&& (BitVec.ofInt (IntKind.bits .u64) (b:Int))).toNat=a &&& b:=by show((BitVec.ofInt 64 (a:Int)) &&& (BitVec.ofInt 64 (b:Int))).toNat=_;rw[acT,abf,abf,abn,abn,aai (by omega),aai (by omega)]
 have hl:a &&& b<18446744073709551616:=abJ Nat.and_le_left ha;rw[e,uJ _ hl]
theorem MV {t c:Nat} (h:2 ^ t*(2*c+1)<2 ^ 64):(2 ^ t*(2*c+1)) &&& (2 ^ 64 - 2 ^ t*(2*c+1))=2 ^ t:=by
 have ht0:0<2 ^ t:=aam t;have ht:t<64:=by
  rcases aa0 t 64 with h1 | h1
  ·exact h1
  ·have h2:2 ^ 64<=2 ^ t:=aan (by decide) h1;have h3:2 ^ t*1<=2 ^ t*(2*c+1):=aae _ (by omega);omega
 have e1:2 ^ t*(2*c+1)=(2 ^ t*(2*c)+(2 ^ t - 1))+1:=by rw[aap]; omega
 refine acq λj=>?_
 rw[ac9];have e2:(2 ^ 64 - 2 ^ t*(2*c+1)).testBit j=(decide (j<64) && !(2 ^ t*(2*c)+(2 ^ t - 1)).testBit j):=by
  conv=>lhs; rw[e1]
  exact acY (by rw[e1]at h; omega) j
 rw[e2,Nat.testBit_two_pow_mul,ac_ _ (by omega),ab4];rcases acK j t with hj | hj | hj
 ·rw[Z8 (by omega:¬ j>=t),Z8 (by omega:¬ t=j)]; rfl
 ·subst hj;rw[if_neg (by omega),aaH,Z7 (aak _),Z7 ht,Z7 rfl];have a1:(2*c+1).testBit 0=true:=by rw[acU]; simp
  have a2:(2*c).testBit 0=false:=by rw[acU]; simp
  rw[a1,a2]; rfl
 ·obtain⟨k,hk⟩:∃ k,j - t=k+1:=⟨j - t - 1,by omega⟩
  rw[if_neg (by omega),hk,Z7 (by omega:j>=t),Z8 (by omega:¬ t=j),acV,acV];have a1:(2*c+1) / 2=c:=by omega
  have a2:2*c / 2=c:=by omega
  rw[a1,a2];cases c.testBit k <;> simp
theorem Sf:∀ t:Fin 64,(inR (Int.fdiv (IntKind.wrap .u64 (((2 ^ t.val:Nat):Int)*285870213051353865)) (2 ^ 58)) 64=true)/\(List.getD wS (Int.toNat (Int.fdiv (IntKind.wrap .u64 (((2 ^ t.val:Nat):Int)*285870213051353865)) (2 ^ 58))) 0=(t.val:Int)):=by decide +kernel
theorem Rv (N:Nat) {t c:Nat} (h:2 ^ t*(2*c+1)<18446744073709551616) (k:Kz1):sQ9 N ((2 ^ t*(2*c+1):Nat):Int) k=k (t:Int):=by
 have h64:(2:Nat) ^ 64=18446744073709551616:=by decide
 have ht0:0<2 ^ t:=aam t;have hx0:0<2 ^ t*(2*c+1):=ab8 ht0 (by omega);have ht:t<64:=by
  rcases aa0 t 64 with h1 | h1
  ·exact h1
  ·have h2:2 ^ 64<=2 ^ t:=aan (by decide) h1;have h3:2 ^ t*1<=2 ^ t*(2*c+1):=aae _ (by omega);omega
 (unfold sQ9; rw[ac]; unfold GQ9)
 have ha:=MV (t:=t) (c:=c) (by omega);rw[h64]at ha;generalize 2 ^ t*(2*c+1)=x at *;have e0:((x:Int)==0)=false:=by simp; omega
 have ew:IntKind.wrap .u64 (0 - (x:Int))=((18446744073709551616 - x:Nat):Int):=by rw[am]; omega
 obtain⟨t1,t2⟩:=Sf ⟨t,ht⟩;rw[e0,Z9,ew,rY h (by omega),ha,aa t1,t2,aa Z5]
theorem Rz {V w:Nat} (h:V / 18446744073709551616 ^ w ≠ 0):w<(ae V).length:=by
 rcases aa0 w (ae V).length with h1 | h1
 ·exact h1
 ·exfalso;have h2:=ia (aZ V);rw[aD]at h2;exact h (aaC (aar h2 (aan (by decide) h1)))
theorem HG {B n:Nat} (h:aX B n):(ae n).length<=B / 64+1:=by
 refine fF _ _ ?_;have e:(18446744073709551616:Nat)=2 ^ 64:=by decide
 rw[e,<- ac7];exact aar h (aan (by decide) (by omega))
theorem Ia {N:Nat} (g:Bool) (n:Nat) (h:(ae n).length<=1099511627776) (k:Ky2):Og N g (ae n) k=qo (-(ba g n)) k:=by
 (unfold Og; rw[ac]; unfold PM)
 rw[vo _ h,mo (!g) g (ae n) n k];congr 1; unfold ba; cases g <;> simp
theorem Lf {N:Nat} (hN:1000<=N) (n:Nat) (hn:n<18446744073709551616) (b:Bool) (k:Ky2):N8 N n b k=k false (ae n):=by
 (unfold N8; rw[ac]; unfold Pz)
 rw[rD hN n hn]; rfl
theorem qr {N:Nat} (hN:1000<=N) (n:Nat) (hn:n<9223372036854775808) (k:Ky2):D5 N n k=k false (ae n):=by
 (unfold D5 OO; unfold Te; rw[ac]; unfold PP)
 have e:IntKind.wrap .u64 (n:Int)=n:=by rw[am]; omega
 rw[Z8 (by omega:¬(n:Int)<0),Z9,e,rD hN n (by omega)]; rfl
theorem H_ {N:Nat} (s:Nat) (b g:Bool) (n:Nat) (hs:s<4294967296) (hN:(ae n).length+s / 64+4<N) (h:(ae n).length<=1099511627776) (k:Ky2):RV N s b g (ae n) k=qo (ba g (n*2 ^ s)) k:=by unfold RV SD;rw[Ij _ (aZ n) s hs hN h,aD,Fu g b _ k]
theorem ow {n:Nat} (h0:n ≠ 0) (h:n<18446744073709551616):ae n=[(n:Int)]:=by rw[bQ h0,aaC h,bu,aai h]
theorem rZ (a b:Int):aB .or .u64 a b=aB .or .u64 b a:=by unfold aB pp;simp only[aaW];rw[BitVec.or_comm]
end Go.Proofs.YtdinakfmablagaaGreatDoor
