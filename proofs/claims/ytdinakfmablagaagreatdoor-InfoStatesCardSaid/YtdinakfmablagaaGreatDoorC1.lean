/- Laws in plain Lean. Conditions: none. -/
import Derived.Test.YtdinakfmablagaaGreatDoorGp
import Derived.Test.YtdinakfmablagaaGreatDoorBig
set_option linter.unusedVariables false
namespace Go.Proofs.YtdinakfmablagaaGreatDoor
open Go Go.Mach
theorem aa {a c:Bool} (h:a=true):(a&&c)=c:=by rw[h]; rfl
theorem am (z:Int):IntKind.wrap .u64 z=z%18446744073709551616:=by rfl
theorem dh (z:Int):IntKind.wrap .u32 z=z%4294967296:=by rfl
theorem kz (z:Int):Int.fdiv z (2 ^ 32)=z / 4294967296:=by rw[ahj _ (by decide)]; rfl
theorem aH {σ:Type} {step:σ->(σ->Bool)->Bool} {s:σ} (C:Nat->σ) (n:Nat) {N:Nat} (h0:s=C 0) (hn:n<N) {out:Bool} (hs:∀ i,i<n -> ∀ K:σ->Bool,step (C i) K=K (C (i+1))) (hx:∀ K,step (C n) K=out):ai N step s=out:=by subst h0; exact ax C n hn hs hx
def bM (b:List Int):Nat->Nat
 | 0=>0
 | n+1=>if b.getD n 0=0 then bM b n else n+1
theorem oG (b:List Int) (n:Nat):bM b (n+1)=if b.getD n 0=0 then bM b n else n+1:=rfl
theorem kf (b:List Int):∀ n,bM b n<=n
 | 0=>af1 _
 | n+1=>by unfold bM; split; exact Nat.le_succ_of_le (kf b n); exact af1 _
theorem dY {b:List Int} {i:Nat} (h:b.length<=i):b.getD i 0=0:=by rw[List.getD_eq_getElem?_getD,List.getElem?_eq_none h]; rfl
theorem aQ {m:List Int} (i:Nat):aD (m.take (i+1))=aD (m.take i)+4294967296 ^ i*(m.getD i 0).toNat:=by
 by_cases h:i<m.length
 ·exact Bh h
 ·rw[dY (by omega),agb (by omega),agb (by omega)]; simp
theorem sw (b:List Int):∀ n,aD (b.take (bM b n))=aD (b.take n)
 | 0=>rfl
 | n+1=>by
  unfold bM;split
  ·rename_i h;rw[sw b n,aQ,h]; simp
  ·rfl
theorem getLast?_take {b:List Int} {n:Nat} (h:n<b.length):(b.take (n+1)).getLast? = some (b.getD n 0):=by rw[ag8 h,List.getLast?_append,List.getD_eq_getElem?_getD,List.getElem?_eq_getElem h];simp
theorem sv (b:List Int):∀ n,n<=b.length -> ∀ x,(b.take (bM b n)).getLast? = some x->x ≠ 0
 | 0,_,x,h=>by simp[bM]at h
 | n+1,hn,x,h=>by
  unfold bM at h;split at h
  ·exact sv b n (by omega) x h
  ·rename_i h0;rw[getLast?_take (by omega)]at h;cases h; exact h0
theorem tK {b:List Int} (hb:InW b):b.take (bM b b.length)=aj (aD b):=by have h1:=sw b b.length;rw[agy]at h1;rw[<- h1,xp (hb.take _) (sv b b.length (af1 _))]
theorem lR {N:Nat} (b:List Int) (hN:b.length<N) (hs:b.length<9223372036854775807) (k:Kz6):pS N b k=k (bM b b.length):=by
 (unfold pS; rw[ac]; unfold SN)
 have key:∀ n,n<=b.length -> ∀ M,n<M->ai M (vY N 0 b λm=>k m) n=k (bM b n):=by
  intro n;induction n with
  | zero=>
   intro _ M hM;cases M with
   | zero=>omega
   | succ M=>
    show vY N 0 b _ 0 _=_;simp[vY,bM]
  | succ n ih=>
   intro hn M hM;cases M with
   | zero=>omega
   | succ M=>
    show vY N 0 b _ (n+1) (ai M _)=_;have e:Int.toNat (((n+1:Nat):Int) - 1)=n:=by omega
    simp only[vY,e,agl,ahW];rw[afO (by omega:((n+1:Nat):Int)>0),aa afM,aa afN,aa (afO (by omega)),aa afM,aa (afO (by omega)),ih (by omega) M (by omega)];rw[oG];by_cases h0:b.getD n 0=0
    ·have:(b.getD n 0==0)=true:=by simpa using h0
     rw[this,if_pos h0]; rfl
    ·have:(b.getD n 0==0)=false:=by simpa using h0
     rw[this,if_neg h0]; rfl
 exact key b.length (af1 _) N hN
theorem Jj {N:Nat} (m:List Int) (hm:InW m) (hN:m.length<N) (hs:m.length<9223372036854775807) (k:Kz9):l4 N m k=k (aj (aD m)):=by
 (unfold l4; rw[ac]; unfold xj)
 have key:∀ n,n<9223372036854775807 -> ∀(l:List Int),l.length=n->InW l -> ∀ M,n<M->ai M (gi N λZv=>k Zv) l=k (aj (aD l)):=by
  intro n;induction n with
  | zero=>
   intro _ l hl _ M hM;cases M with
   | zero=>omega
   | succ M=>
    have:l=[]:=List.length_eq_zero_iff.1 hl;subst this;show gi N _ [] _=_;simp[gi,aD,aZ]
  | succ n ih=>
   intro hn l hl hw M hM;cases M with
   | zero=>omega
   | succ M=>
    show gi N _ l (ai M _)=_;have e:Int.toNat ((l.length:Int) - 1)=n:=by omega
    simp only[gi,e,ahh];rw[afO (by omega:(l.length:Int)>0),aa afM,aa afN,aa afM,aa (afO (by omega)),ih (by omega) (l.take n) (by simp; omega) (hw.take n) M (by omega)];have e2:=aQ (m:=l) n;rw[agb (by omega)]at e2;by_cases h0:l.getD n 0=0
    ·have:(l.getD n 0==0)=true:=by simpa using h0
     rw[this];rw[h0]at e2;simp at e2;rw[e2]; rfl
    ·have:(l.getD n 0==0)=false:=by simpa using h0
     rw[this,xp hw (λx hx=>by have:=getLast?_take (b:=l) (n:=n) (by omega);rw[agb (by omega)]at this;rw[this]at hx; cases hx; exact h0)]
     rfl
 exact key m.length hs m rfl hm N hN
theorem dj {N:Nat} (b:List Int) (hb:InW b) (hN:b.length<N) (hs:b.length<9223372036854775807) (k:Kz9) :
  (pS N b λl=>(decide (0+l<=b.length))&&k (List.take l (List.drop 0 b)))=k (aj (aD b)):=by
 rw[lR b hN hs,ahh,tK hb];have:=kf b b.length;rw[afO (by omega)]; rfl
def fK (N:Nat) (l:List Int):Prop:=l.length+2<N/\l.length<=17592186044416
theorem dS (T A i:Nat):(T+4294967296 ^ i*A) / 4294967296 ^ i=T / 4294967296 ^ i+A:=agL _ _ (agZ (by decide))
theorem Ig (m:List Int) (i:Nat):aD m=aD (m.take i)+4294967296 ^ (m.take i).length*aD (m.drop i):=by rw[<- sN,aiu]
theorem bW (m:List Int) (i:Nat):∃ R,aD m=aD (m.take i)+4294967296 ^ i*R:=by
 by_cases h:i<=m.length
 ·refine⟨aD (m.drop i),?_⟩;have:=Ig m i
  rwa [agv,ahf h]at this
 ·exact⟨0,by rw[agb (by omega)]; simp⟩
theorem bv {m:List Int} (h:InW m) (i:Nat):aD (m.take i)<4294967296 ^ i:=by
 have h1:=eQ (h.take i);have h2:(m.take i).length<=i:=by simp; omega
 exact af9 h1 (af5 (by decide) h2)
theorem mu {S T R i:Nat} (h:S=T+4294967296 ^ (i+1)*R):S / 4294967296 ^ i%4294967296=T / 4294967296 ^ i%4294967296:=by rw[h,af2,af0,dS,ag7]
theorem Da {N:Nat} (a b:List Int) (ha:InW a) (hb:InW b) (hl:b.length<=a.length) (hN:fK N a) (k:Kz9) :
  ai N (gI N a b λcarry out=>(inR (a.length:Nat) out.length)&&((decide ((Int.toNat (a.length:Nat))<out.length)) &&
   (pS N (List.set out (Int.toNat (a.length:Nat)) (IntKind.wrap .u32 carry)) λZ4=>(decide ((0+Z4)<=(List.length (List.set out (Int.toNat (a.length:Nat)) (IntKind.wrap .u32 carry)))))&&k (List.take Z4 (List.drop 0 (List.set out (Int.toNat (a.length:Nat)) (IntKind.wrap .u32 carry)))))))
   (0,0,List.replicate (a.length+1) 0)=k (aj (aD a+aD b)):=by
 obtain⟨hN1,hN2⟩:=hN
 let S:=aD a+aD b
 let T:=λi=>aD (a.take i)+aD (b.take i)
 refine aH (λi=>(((T i / 4294967296 ^ i:Nat):Int),(i:Int),dl S i++List.replicate (a.length+1 - i) 0)) a.length (by simp[T,aD,dl]) (by omega) (λi hi K=>?_) (λK=>?_)
 ·have hx:=ha.at (i:=i);have hy:=hb.at (i:=i);have hT:T (i+1)=T i+4294967296 ^ i*((a.getD i 0).toNat+(b.getD i 0).toNat):=by simp only[T,aQ,af6]; omega
  have hq:T (i+1) / 4294967296 ^ i=T i / 4294967296 ^ i+((a.getD i 0).toNat+(b.getD i 0).toNat):=by rw[hT,dS]
  have hc:T i / 4294967296 ^ i<=1:=by
   have h1:=bv ha i;have h2:=bv hb i;have h3:T i<4294967296 ^ i*2:=by simp only[T]; omega
   have:=(afY (agZ (n:=i) (by decide:0<4294967296))).2 (by rw[afS]; exact h3:T i<2*4294967296 ^ i);omega
  have hdiv:T (i+1) / 4294967296 ^ (i+1)=T (i+1) / 4294967296 ^ i / 4294967296:=by rw[af2,afX]
  have hdig:S / 4294967296 ^ i%4294967296=T (i+1) / 4294967296 ^ i%4294967296:=by obtain⟨R1,h1⟩:=bW a (i+1);obtain⟨R2,h2⟩:=bW b (i+1);refine mu (R:=R1+R2) ?_;simp only[S,T];rw[af6]; omega
  have hset:=At S i (a.length+1) (by omega);have hlen:(dl S i++List.replicate (a.length+1 - i) 0).length=a.length+1:=by simp[al]; omega
  generalize hq':T i / 4294967296 ^ i=q at *;generalize hx':a.getD i 0=x at *;generalize hy':b.getD i 0=y at *;simp only[gI,afV];rw[afO (by omega:(i:Int)<a.length),afR,hx',hy',aa afN,hlen];have hstep:∀ s:Int,s=((q+(x.toNat+y.toNat):Nat):Int)->K ((Int.fdiv s (2 ^ 32)),((i:Int)+1),(List.set (dl S i++List.replicate (a.length+1 - i) 0) i (IntKind.wrap .u32 s)))=K (((T (i+1) / 4294967296 ^ (i+1):Nat):Int),((i+1:Nat):Int),dl S (i+1)++List.replicate (a.length+1 - (i+1)) 0):=by
   intro s hs;have e1:Int.fdiv s (2 ^ 32)=((T (i+1) / 4294967296 ^ (i+1):Nat):Int):=by rw[kz,hdiv,hq,hs]; omega
   have e2:IntKind.wrap .u32 s=((S / 4294967296 ^ i%4294967296:Nat):Int):=by rw[dh,hdig,hq,hs]; omega
   rw[e1,e2,hset]; rfl
  by_cases hib:i<b.length
  ·rw[afO (by omega:(i:Int)<b.length),afR,aa afN,aa afN,aa (afO (by omega)),aa afM];exact hstep _ (by simp only[am]; omega)
  ·rw[afP (by omega:¬(i:Int)<b.length),afQ,aa afN,aa (afO (by omega)),aa afM];have hy0:y=0:=by rw[<- hy']; exact dY (by omega)
   subst hy0;exact hstep _ (by simp only[am]; omega)
 ·simp only[gI];rw[afP (by omega:¬(a.length:Int)<a.length),afQ];have hT:T a.length=S:=by simp only[T,S]; rw[agy,agb hl]
  have hS:S<4294967296 ^ (a.length+1):=by have h1:=eQ ha;have h2:=eQ hb;have h3:4294967296 ^ b.length<=4294967296 ^ a.length:=af5 (by decide) hl;rw[af2];simp only[S]; omega
  have hlen:(dl S a.length++List.replicate (a.length+1 - a.length) 0).length=a.length+1:=by simp[al]
  have e2:IntKind.wrap .u32 ((T a.length / 4294967296 ^ a.length:Nat):Int)=((S / 4294967296 ^ a.length%4294967296:Nat):Int):=by rw[dh,hT]; omega
  have hset:=At S a.length (a.length+1) (by omega);rw[e2,afV,hset,hlen,aa afN,aa (afO (by omega)),agq,agt,agp,
   dj _ (jt S _) (by rw[al]; omega) (by rw[al]; omega),qt hS]
theorem OG {N:Nat} (a b:List Int) (ha:InW a) (hb:InW b) (hNa:fK N a) (hNb:fK N b) (k:Kz9):vP N a b k=k (aj (aD a+aD b)):=by
 (unfold vP; rw[ac]; unfold u9)
 have h1:=hNa.2;have h2:=hNb.2;by_cases h:a.length<b.length
 ·rw[afO (by omega:(a.length:Int)<b.length),afR,aa afM,aa (bE (by omega) (by omega) (by omega) (by omega))];have e:Int.toNat ((b.length:Int)+1)=b.length+1:=by omega
  rw[e,Da b a hb ha (by omega) hNb k,ahK]
 ·rw[afP (by omega:¬(a.length:Int)<b.length),afQ,aa afM,aa (bE (by omega) (by omega) (by omega) (by omega))];have e:Int.toNat ((a.length:Int)+1)=a.length+1:=by omega
  rw[e,Da a b ha hb (by omega) hNa k]
theorem aU (i:Nat):0<4294967296 ^ i:=agZ (by decide)
theorem AM {D e P:Nat} {z:Int} (h:(D:Int)=(e:Int)+(P:Int)*z) (he:e<P):((D / P:Nat):Int)=z:=by
 have hP:(P:Int) ≠ 0:=by omega
 rw[Int.natCast_ediv,h,Int.add_mul_ediv_left _ _ hP,<- Int.natCast_ediv,agm he];simp
theorem oD (P A B x y:Nat) (hA:A<P) (hB:B<P):(if A+P*x<B+P*y then 1 else 0)=if x<y+(if A<B then 1 else 0)then 1 else(0:Nat):=by
 by_cases hxy:x<y
 ·have:P*(x+1)<=P*y:=afW P hxy;rw[af6]at this;rw[if_pos (by omega),if_pos (by omega)]
 ·by_cases hyx:y<x
  ·have:P*(y+1)<=P*x:=afW P hyx;rw[af6]at this;rw[if_neg (by omega),if_neg (by split <;> omega)]
  ·have:x=y:=by omega
   subst this;by_cases hAB:A<B
   ·rw[if_pos (by omega),if_pos hAB,if_pos (by omega)]
   ·rw[if_neg (by omega),if_neg hAB,if_neg (by omega)]
theorem Ff {P A B x y o R1 R2 D a b:Nat} (hA:A<P) (hB:B<P) (ho:o=if A<B then 1 else 0) (h1:a=A+P*x+P*4294967296*R1) (h2:b=B+P*y+P*4294967296*R2) (hD:(D:Int)=(a:Int) - (b:Int)) :
  ((D / P:Nat):Int)=(x:Int) - (y:Int) - (o:Int)+4294967296*((R1:Int) - (R2:Int)):=by
 have he:∃ e:Nat,e<P/\(e:Int)=(A:Int) - (B:Int)+(P:Int)*(o:Int):=by
  rw[ho];split
  ·exact⟨A+P - B,by omega,by omega⟩
  ·exact⟨A - B,by omega,by omega⟩
 obtain⟨e,he1,he2⟩:=he;refine AM (e:=e) ?_ he1;have e1:(a:Int)=A+(P:Int)*x+4294967296*((P:Int)*R1):=by rw[h1,af0,agi]; simp
 have e2:(b:Int)=B+(P:Int)*y+4294967296*((P:Int)*R2):=by rw[h2,af0,agi]; simp
 have e3:(P:Int)*((x:Int) - (y:Int) - (o:Int)+4294967296*((R1:Int) - (R2:Int)))=(P:Int)*x - (P:Int)*y - (P:Int)*o+(4294967296*((P:Int)*R1) - 4294967296*((P:Int)*R2)):=by rw[Int.mul_add,aid,aid,Int.mul_left_comm,aid,aid]
 rw[hD,e1,e2,e3,he2];omega
theorem xJ {N:Nat} (a b:List Int) (ha:InW a) (hb:InW b) (hle:aD b<=aD a) (hN:fK N a) (k:Kz9):mP N a b k=k (aj (aD a - aD b)):=by
 obtain⟨hN1,hN2⟩:=hN
 (unfold mP; rw[ac]; unfold rX)
 rw[aa (bE (by omega) (by omega) (by omega) (by omega)),afV]
 let D:=aD a - aD b
 let bo:=λi=>if aD (a.take i)<aD (b.take i)then(1:Nat)else 0
 refine aH (λi=>(((bo i:Nat):Int),(i:Int),dl D i++List.replicate (a.length - i) 0)) a.length (by simp[bo,aD,dl]) (by omega) (λi hi K=>?_) (λK=>?_)
 ·have hx:=ha.at (i:=i);have hy:=hb.at (i:=i);have hA:=aQ (m:=a) i;have hB:=aQ (m:=b) i;have hAl:=bv ha i;have hBl:=bv hb i;have hset:=At D i a.length (by omega);have hl:(dl D i++List.replicate (a.length - i) 0).length=a.length:=by simp[al]; omega
  obtain⟨R1,h1⟩:=bW a (i+1);obtain⟨R2,h2⟩:=bW b (i+1);have hD:(D:Int)=(aD a:Int) - (aD b:Int):=by simp only[D]; omega
  have hP:=aU i;have hPs:4294967296 ^ (i+1)=4294967296 ^ i*4294967296:=af2 ..;have hbo:bo i<=1:=by simp only[bo]; split <;> omega
  have hbs:bo (i+1)=if (a.getD i 0).toNat<(b.getD i 0).toNat+bo i then 1 else 0:=by simp only[bo,hA,hB];exact oD _ _ _ _ _ hAl hBl
  have hq:((D / 4294967296 ^ i:Nat):Int)=((a.getD i 0).toNat:Int) - ((b.getD i 0).toNat:Int) - (bo i:Int)+4294967296*((R1:Int) - (R2:Int)):=by rw[hA,hPs]at h1;rw[hB,hPs]at h2;exact Ff hAl hBl rfl h1 h2 hD
  have hdig:((D / 4294967296 ^ i%4294967296:Nat):Int)=(((a.getD i 0).toNat:Int) - ((b.getD i 0).toNat:Int) - (bo i:Int))%4294967296:=by rw[Int.natCast_emod,hq];exact Int.add_mul_emod_self_left _ _ _
  generalize hx':a.getD i 0=x at *;generalize hy':b.getD i 0=y at *;generalize bo i=o at *;generalize bo (i+1)=o' at *;simp only[lf,afV];have hy0:¬ i<b.length->y=0:=λh=>by rw[<- hy']; exact dY (by omega)
  have fin:∀(v w:Int),v=(o':Int)->w%4294967296=((D / 4294967296 ^ i%4294967296:Nat):Int)->K (v,(i:Int)+1,List.set (dl D i++List.replicate (a.length - i) 0) i (IntKind.wrap .u32 w))=K ((o':Int),((i+1:Nat):Int),dl D (i+1)++List.replicate (a.length - (i+1)) 0):=by intro v w hv hw;rw[hv,dh,hw,hset]; rfl
  simp only[hx',hy',hl];rw[afO (by omega:(i:Int)<a.length),afR];by_cases hib:i<b.length
  ·rw[afO (by omega:(i:Int)<b.length),afR,aa afN,aa afN];by_cases hlt:x.toNat<y.toNat+o
   ·rw[afO (by simp only[am]; omega),afR,aa afN,aa (afO (by omega)),aa afM];rw[if_pos hlt]at hbs;exact fin _ _ (by omega) (by rw[hdig]; simp only[am]; omega)
   ·rw[afP (by simp only[am]; omega),afQ,aa afN,aa (afO (by omega)),aa afM];rw[if_neg hlt]at hbs;exact fin _ _ (by omega) (by rw[hdig]; simp only[am]; omega)
  ·have hy1:=hy0 hib;rw[afP (by omega:¬(i:Int)<b.length),afQ,aa afN];by_cases hlt:x.toNat<y.toNat+o
   ·rw[afO (by simp only[am]; omega),afR,aa afN,aa (afO (by omega)),aa afM];rw[if_pos hlt]at hbs;exact fin _ _ (by omega) (by rw[hdig]; simp only[am]; omega)
   ·rw[afP (by simp only[am]; omega),afQ,aa afN,aa (afO (by omega)),aa afM];rw[if_neg hlt]at hbs;exact fin _ _ (by omega) (by rw[hdig]; simp only[am]; omega)
 ·simp only[lf];rw[afP (by omega:¬(a.length:Int)<a.length),afQ,agq,agt,agp];have hS:D<4294967296 ^ a.length:=by have:=eQ ha; simp only[D]; omega
  rw[dj _ (jt D _) (by rw[al]; omega) (by rw[al]; omega),qt hS]
theorem co (a c s:Nat) (ha:a<2 ^ s) (hlt:2 ^ s*c+a<18446744073709551616):aB .or .u64 (a:Int) ((2 ^ s*c:Nat):Int)=((2 ^ s*c+a:Nat):Int):=by
 unfold aB rn;simp only[agC];have e:((BitVec.ofInt (IntKind.bits .u64) (a:Int)) ||| (BitVec.ofInt (IntKind.bits .u64) ((2 ^ s*c:Nat):Int))).toNat=2 ^ s*c+a:=by
  show((BitVec.ofInt 64 (a:Int)) ||| (BitVec.ofInt 64 ((2 ^ s*c:Nat):Int))).toNat=_;have h64:(2:Nat) ^ 64=18446744073709551616:=by decide
  rw[BitVec.toNat_or,agY,agY,ag5,ag5,afZ (by omega),afZ (by omega),Nat.or_comm,<- aiH ha]
 rw[e,xe _ hlt]
theorem G2 (n:Nat) (h:n<4294967296):IntKind.wrap .u32 (n:Int)=n:=by rw[dh]; omega
theorem rq (a c s:Nat) (ha:a<2 ^ s) (hlt:2 ^ s*c+a<4294967296):aB .or .u32 (a:Int) ((2 ^ s*c:Nat):Int)=((2 ^ s*c+a:Nat):Int):=by
 unfold aB rn;simp only[agC];have e:((BitVec.ofInt (IntKind.bits .u32) (a:Int)) ||| (BitVec.ofInt (IntKind.bits .u32) ((2 ^ s*c:Nat):Int))).toNat=2 ^ s*c+a:=by
  show((BitVec.ofInt 32 (a:Int)) ||| (BitVec.ofInt 32 ((2 ^ s*c:Nat):Int))).toNat=_;have h32:(2:Nat) ^ 32=4294967296:=by decide
  rw[BitVec.toNat_or,agY,agY,ag5,ag5,afZ (by omega),afZ (by omega),Nat.or_comm,<- aiH ha]
 rw[e,G2 _ hlt]
def dx (x y:Nat):Int:=if x<y then -1 else if x=y then 0 else 1
theorem NA {P A B x y:Nat} (hA:A<P) (h:x<y):dx (A+P*x) (B+P*y) = -1:=by have:P*(x+1)<=P*y:=afW P h;rw[af6]at this;unfold dx;rw[if_pos (by omega)]
theorem Nz {P A B x y:Nat} (hB:B<P) (h:y<x):dx (A+P*x) (B+P*y)=1:=by have:P*(y+1)<=P*x:=afW P h;rw[af6]at this;unfold dx;rw[if_neg (by omega),if_neg (by omega)]
theorem E3 {P A B x:Nat}:dx (A+P*x) (B+P*x)=dx A B:=by
 unfold dx;by_cases h3:A<B
 ·rw[if_pos h3,if_pos (by omega)]
 ·by_cases h4:A=B
  ·subst h4; simp
  ·rw[if_neg h3,if_neg h4,if_neg (by omega),if_neg (by omega)]
theorem DA {N:Nat} (a b:List Int) (ha:InW a) (hb:InW b) (hl:a.length=b.length) (hs:a.length<9223372036854775807) (k:Kz5) :
  ∀ n,n<=a.length -> ∀ M,n<M->ai M (vU N a b (λt4=>k t4) (k 0)) ((n:Int) - 1)=k (dx (aD (a.take n)) (aD (b.take n))):=by
 intro n;induction n with
 | zero=>
  intro _ M hM;cases M with
  | zero=>omega
  | succ M=>
   show vU N a b _ _ ((0:Nat) - 1:Int) _=_;simp[vU,dx,aD]
 | succ n ih=>
  intro hn M hM;cases M with
  | zero=>omega
  | succ M=>
   show vU N a b _ _ (((n+1:Nat):Int) - 1) (ai M _)=_;have e:(((n+1:Nat):Int) - 1)=(n:Int):=by omega
   have hx:=ha.at (i:=n);have hy:=hb.at (i:=n);have hA:=aQ (m:=a) n;have hB:=aQ (m:=b) n;have hAl:=bv ha n;have hBl:=bv hb n;rw[e];simp only[vU,afV];rw[hA,hB,afO (by omega:(n:Int)>=0),afR,aa afN,aa afN,aa afN,aa afN,aa afM,ih (by omega) M (by omega)];by_cases h1:a.getD n 0<b.getD n 0
   ·rw[afO h1,afR,NA hAl (by omega)]
   ·rw[afP h1,afQ];by_cases h2:a.getD n 0>b.getD n 0
    ·rw[afO h2,afR,Nz hBl (by omega)]
    ·rw[afP h2,afQ];have:a.getD n 0=b.getD n 0:=by omega
     rw[this,E3]
theorem bS {x y:Nat} (h:x<=y):(aj x).length<=(aj y).length:=by
 induction y using Nat.strongRecOn generalizing x with
 | ind y ih=>
  by_cases hx:x=0
  ·subst hx; rw[aZ]; simp
  ·rw[cj hx,cj (by omega:y ≠ 0)];simp only[ags];have:=ih (y / 4294967296) (by omega) (x:=x / 4294967296) (ah6 h);omega
theorem kn {N:Nat} (x y:Nat) (hx:fK N (aj x)) (hy:fK N (aj y)) (k:Kz5):GB N (aj x) (aj y) k=k (dx x y):=by
 (unfold GB; rw[ac]; unfold Th)
 obtain⟨x1,x2⟩:=hx;obtain⟨y1,y2⟩:=hy;by_cases h:(aj x).length=(aj y).length
 ·have e:(((aj x).length:Int) != (aj y).length)=false:=by rw[h]; simp
  rw[e,afQ,aa afM,DA (aj x) (aj y) (bf x) (bf y) h (by omega) k _ (af1 _) N (by omega),agy,h,agy,aL,aL]
 ·have e:(((aj x).length:Int) != (aj y).length)=true:=by simp; omega
  rw[e,afR];by_cases h1:(aj x).length<(aj y).length
  ·rw[afO (by omega),afR];have:x<y:=by
    rcases agP x y with h2 | h2
    ·exact h2
    ·have:=bS h2; omega
   unfold dx; rw[if_pos this]
  ·rw[afP (by omega),afQ];have:¬ x<=y:=λh2=>by have:=bS h2; omega
   unfold dx; rw[if_neg (by omega),if_neg (by omega)]
def bl (n:Nat):Nat:=if n=0 then 0 else n.log2+1
theorem mq {n:Nat} (j:Nat) (h:2 ^ j<=n):bl n=j+bl (n / 2 ^ j):=by
 have hp:0<2 ^ j:=af3 j;have h0:n ≠ 0:=by omega
 have h1:n / 2 ^ j ≠ 0:=by have:=aie h hp;omega
 unfold bl;rw[if_neg h0,if_neg h1];have hj:j<=n.log2:=(Nat.le_log2 h0).2 h;have:(n / 2 ^ j).log2=n.log2 - j:=by
  rw[Nat.log2_eq_iff h1];have h2:=Nat.log2_self_le h0;have h3:n<2 ^ (n.log2+1):=Nat.lt_log2_self;constructor
  ·rw[ahx hp,<- af8];rw[show n.log2 - j+j=n.log2 by omega]; exact h2
  ·rw[afY hp,<- af8];rw[show n.log2 - j+1+j=n.log2+1 by omega]; exact h3
 omega
theorem V9:∀ i:Fin 256,az.getD i.val 0=(bl i.val:Int):=by decide +kernel
theorem PH {i:Nat} (h:i<256):az.getD i 0=(bl i:Int):=V9 ⟨i,h⟩
theorem EP {n:Nat} (h:n<256):bl n<=8:=by
 unfold bl;split
 ·omega
 ·rename_i h0;have:=(Nat.log2_lt h0).2 (by simpa using h:n<2 ^ 8);omega
theorem Sx (z:Int):IntKind.wrap .u8 z=z%256:=by rfl
theorem R6 (z:Int):Int.fdiv z (2 ^ 8)=z / 256:=by rw[ahj _ (by decide)]; rfl
theorem NV (z:Int):Int.fdiv z (2 ^ 16)=z / 65536:=by rw[ahj _ (by decide)]; rfl
theorem CO (N:Nat) (x:Nat) (h:x<4294967296) (k:Kz5):JJ N (x:Int) k=k (bl x:Int):=by
 (unfold JJ; rw[ac]; unfold Mx)
 simp only[R6,NV,Sx];have key:∀(z:Int) (m:Nat),z=(m:Int)->m<256 -> ∀ c:Nat,c<=32->((inR z 256)&&((af .i64 (List.getD az (Int.toNat z) 0))&&((af .i64 ((c:Int)+(List.getD az (Int.toNat z) 0)))&&k ((c:Int)+List.getD az (Int.toNat z) 0))))=k ((c+bl m:Nat):Int):=by intro z m hz hm c hc;subst hz;have:=EP hm;rw[afV,PH hm,aa afN,aa afM,aa afM];rfl
 by_cases h16:65536<=x
 ·rw[afO (by omega:(x:Int)>=65536),afR];have e16:=mq (n:=x) 16 (by simpa using h16);have p16:(2:Nat) ^ 16=65536:=by decide
  have p8:(2:Nat) ^ 8=256:=by decide
  rw[p16]at e16;by_cases h8:256<=x / 65536
  ·rw[afO (by omega:(x:Int) / 65536>=256),afR];have e8:=mq (n:=x / 65536) 8 (by simpa using h8);rw[p8]at e8;have:=key ((x:Int) / 65536 / 256%256) (x / 65536 / 256) (by omega) (by omega) 24 (by omega);rw[show((24:Nat):Int)=24 from rfl]at this;rw[this]; congr 2; omega
  ·rw[afP (by omega:¬(x:Int) / 65536>=256),afQ];have:=key ((x:Int) / 65536%256) (x / 65536) (by omega) (by omega) 16 (by omega);rw[show((16:Nat):Int)=16 from rfl]at this;rw[this]; congr 2; omega
 ·rw[afP (by omega:¬(x:Int)>=65536),afQ];by_cases h8:256<=x
  ·rw[afO (by omega:(x:Int)>=256),afR];have e8:=mq (n:=x) 8 (by simpa using h8);rw[show(2:Nat) ^ 8=256 by decide]at e8;have:=key ((x:Int) / 256%256) (x / 256) (by omega) (by omega) 8 (by omega);rw[show((8:Nat):Int)=8 from rfl]at this;rw[this]; congr 2; omega
  ·rw[afP (by omega:¬(x:Int)>=256),afQ];have:=key ((x:Int)%256) x (by omega) (by omega) 0 (by omega);rw[show((0:Nat):Int)=0 from rfl]at this;rw[this]; congr 2; omega
theorem sx:∀ n,n ≠ 0->bl n=32*((aj n).length - 1)+bl ((aj n).getD ((aj n).length - 1) 0).toNat/\0<(aj n).length:=by
  intro n;induction n using Nat.strongRecOn with
  | ind n ih=>
    intro h;rw[cj h];by_cases h1:n / 4294967296=0
    · rw[h1,aZ]
      have:n%4294967296=n:=afZ (by omega);simp[this]
    · obtain⟨i1,i2⟩:=ih (n / 4294967296) (by omega) h1
      have e:=mq (n:=n) 32 (by have:(2:Nat) ^ 32=4294967296:=(by decide); omega);rw[show(2:Nat) ^ 32=4294967296 by decide]at e;refine⟨?_,by simp⟩;have e2:(((n%4294967296:Nat):Int)::aj (n / 4294967296)).getD ((((n%4294967296:Nat):Int)::aj (n / 4294967296)).length - 1) 0=(aj (n / 4294967296)).getD ((aj (n / 4294967296)).length - 1) 0:=by
        simp only[ags,aih];generalize aj (n / 4294967296)=l at i2 ⊢;cases l with
        | nil=>simp at i2
        | cons y l=>simp
      rw[e2,e,i1];simp only[ags];omega
theorem AX {N:Nat} (g:Bool) (n:Nat) (hs:fK N (aj n)) (k:Kz5):LO N g (aj n) k=k (bl n:Int):=by
  (unfold LO; rw[ac]; unfold S7)
  obtain⟨s1,s2⟩:=hs;by_cases h:n=0
  · subst h; rw[aZ]; rfl
  · obtain⟨e1,e2⟩:=sx n h
    have e0:(((aj n).length:Int)==0)=false:=by simp; intro h'; rw[h']at e2; simp at e2
    have e3:Int.toNat (((aj n).length:Int) - 1)=(aj n).length - 1:=by omega
    have hw:=(bf n).at (i:=(aj n).length - 1);have hb:bl ((aj n).getD ((aj n).length - 1) 0).toNat<=32:=by
      unfold bl; split
      · omega
      · rename_i h0
        have:=(Nat.log2_lt h0).2 (by have:(2:Nat) ^ 32=4294967296:=(by decide); omega:((aj n).getD ((aj n).length - 1) 0).toNat<2 ^ 32);omega
    have e4:(aj n).getD ((aj n).length - 1) 0=((((aj n).getD ((aj n).length - 1) 0).toNat:Nat):Int):=by omega
    rw[e0,afQ,aa afM,aa afM,aa afM,aa afN,e3,e4,CO N _ (by omega),aa afM];congr 1; omega
theorem vq:∀(w X:Nat),dl (4294967296 ^ w*X) w=List.replicate w 0:=by
 intro w;have key:∀ n,n<=w -> ∀ X,dl (4294967296 ^ w*X) n=List.replicate n 0:=by
  intro n;induction n with
  | zero=>intro _ X; rfl
  | succ n ih=>
   intro hn X;rw[dl,ih (by omega),ahp];have e:4294967296 ^ w*X=4294967296 ^ n*(4294967296*(4294967296 ^ (w - n - 1)*X)):=by rw[<- af0,<- af0,<- af2,<- af8];congr 2; omega
   rw[e,agr _ (aU n),aiV];rfl
 exact key w (af1 _)
theorem wS (n:Nat):2 ^ n=4294967296 ^ (n / 32)*2 ^ (n%32):=by
 have:(4294967296:Nat)=2 ^ 32:=by decide
 rw[this,<- aiI,<- af8];congr 1; omega
theorem be {α:Type} (xs:List α) (y:α) (ys:List α) (z:α) (n:Nat) (h:n=xs.length):(xs++y::ys).set n z=xs++z::ys:=by subst h; rw[ahZ _ _ (af1 _),agq]; rfl
theorem bT {xs:List Int} {y:Int} {ys:List Int} {n:Nat} (h:n=xs.length):(xs++y::ys).getD n 0=y:=by subst h; rw[List.getD_eq_getElem?_getD,List.getElem?_append_right (af1 _),agq]; rfl
theorem Oz {N:Nat} (m:List Int) (hm:InW m) (n:Nat) (hn:n<4294967296) (hN:m.length+n / 32+4<N) (hs:m.length<=1099511627776) (k:Kz9):vO N m n k=k (aj (aD m*2 ^ n)):=by
 (unfold vO; rw[ac]; unfold u7)
 by_cases h0:m.length=0
 ·have:m=[]:=List.length_eq_zero_iff.1 h0;subst this;simp[aD,aZ]
 ·have e0:((m.length:Int)==0)=false:=by simp; intro h; subst h; simp at h0
  have ew:IntKind.wrap .u64 (Int.tdiv (n:Int) 32)=((n / 32:Nat):Int):=by rw[am,agU (by omega)]; omega
  have es:Int.tmod (n:Int) 32=((n%32:Nat):Int):=by rw[agI (by omega)]; rfl
  rw[e0,afQ,ew,es];generalize hw:n / 32=w at *;generalize hsh:n%32=s at *;have hs32:s<32:=by omega
  have hp2:2 ^ n=4294967296 ^ w*2 ^ s:=by rw[wS,hw,hsh]
  have hs0:0<2 ^ s:=af3 s;have hs1:2 ^ s*2 ^ (32 - s)=4294967296:=by rw[<- af8,show s+(32 - s)=32 by omega]
  have hs2:2 ^ s<=2147483648:=by have:2 ^ s<=2 ^ 31:=af5 (by decide) (by omega);simpa using this
  have elen:Int.toNat (((w:Nat):Int)+(m.length:Int)+1)=w+m.length+1:=by omega
  rw[aa afM,aa afM,aa afM,aa (bE (by omega) (by omega) (by omega) (by omega)),elen]
  let V:=aD m*2 ^ n
  let X:=aD m*2 ^ s
  have hVX:V=4294967296 ^ w*X:=by simp only[V,X]; rw[hp2,agi]
  let T:=λi=>aD (m.take i)*2 ^ s
  let c:=λi=>T i / 4294967296 ^ i
  refine aH (λi=>((i:Int),dl V (w+i)++((c i:Nat):Int)::List.replicate (m.length - i) 0)) m.length ?_ (by omega) (λi hi K=>?_) (λK=>?_)
  ·congr 1;show List.replicate (w+m.length+1) (0:Int)=dl V w++((c 0:Nat):Int)::List.replicate m.length 0;rw[hVX,vq];have hc0:c 0=0:=by simp[c,T,aD]
   rw[hc0];have:w+m.length+1=w+(m.length+1):=by omega
   rw[this,<- ahu,agA]; rfl
  ·have hx:=hm.at (i:=i);have hT:T (i+1)=T i+4294967296 ^ i*((m.getD i 0).toNat*2 ^ s):=by simp only[T,aQ,agk,af0]
   have hq:T (i+1) / 4294967296 ^ i=c i+(m.getD i 0).toNat*2 ^ s:=by rw[hT,dS]
   have hci:c i<2 ^ s:=by simp only[c,T];rw[afY (aU i),afS];exact ag0 (bv hm i) hs0
   have hc1:c (i+1)=(c i+(m.getD i 0).toNat*2 ^ s) / 4294967296:=by rw[<- hq]; simp only[c]; rw[af2,afX]
   have hdig:V / 4294967296 ^ (w+i)%4294967296=(c i+(m.getD i 0).toNat*2 ^ s)%4294967296:=by rw[<- hq,hVX,af8,<- afX,agr _ (aU w)];obtain⟨R,hR⟩:=bW m (i+1);refine mu (R:=R*2 ^ s) ?_;simp only[X,T];rw[hR,agk,af0]
   have hrep:List.replicate (m.length - i) (0:Int)=0::List.replicate (m.length - (i+1)) 0:=by rw[show m.length - i=(m.length - (i+1))+1 by omega,agA]
   have hdl:=al V (w+i);have ei:Int.toNat ((w:Int)+(i:Int))=w+i:=by omega
   have ei1:Int.toNat ((w:Int)+(i:Int)+1)=w+i+1:=by omega
   have emin:min s 64=s:=by omega
   simp only[eE,afV,ei,ei1,emin];rw[hrep,bT hdl.symm,be _ _ _ _ _ hdl.symm];have et:IntKind.wrap .u64 (IntKind.wrap .u64 (m.getD i 0)*2 ^ s)=(((m.getD i 0).toNat*2 ^ s:Nat):Int):=by
    have hxs:(m.getD i 0).toNat*2 ^ s<4294967296*2147483648:=agz (by omega) hs2 (by decide);have e1:IntKind.wrap .u64 (m.getD i 0)=(((m.getD i 0).toNat:Nat):Int):=by rw[am]; omega
    have e2:(((m.getD i 0).toNat:Nat):Int)*2 ^ s=(((m.getD i 0).toNat*2 ^ s:Nat):Int):=by simp
    rw[e1,e2,am]; omega
   rw[et];generalize hxx:(m.getD i 0).toNat=x at *;have hx32:x<4294967296:=by omega
   have hlow:x*2 ^ s%4294967296=2 ^ s*(x%2 ^ (32 - s)):=by
    have e:x*2 ^ s%(2 ^ s*2 ^ (32 - s))=2 ^ s*(x%2 ^ (32 - s)):=by rw[afS x]; exact ahB _ _ _
    rwa [hs1]at e
   have hsum:2 ^ s*(x%2 ^ (32 - s))+c i<4294967296:=by have h1:x%2 ^ (32 - s)+1<=2 ^ (32 - s):=af4 _ (af3 _);have h2:=afW (2 ^ s) h1;rw[hs1,af6]at h2;omega
   have eor:aB .or .u32 ((c i:Nat):Int) (IntKind.wrap .u32 ((x*2 ^ s:Nat):Int))=((V / 4294967296 ^ (w+i)%4294967296:Nat):Int):=by
    have e1:IntKind.wrap .u32 ((x*2 ^ s:Nat):Int)=((2 ^ s*(x%2 ^ (32 - s)):Nat):Int):=by rw[<- hlow,dh]; omega
    rw[e1,rq _ _ s hci hsum,hdig];omega
   have ehi:IntKind.wrap .u32 (Int.fdiv ((x*2 ^ s:Nat):Int) (2 ^ 32))=((c (i+1):Nat):Int):=by have hxs:x*2 ^ s<4294967296*2147483648:=agz hx32 hs2 (by decide);rw[kz,dh,hc1];omega
   rw[eor,ehi];have hl1:∀(a b:Int) (ys:List Int),(dl V (w+i)++a::b::ys).length=w+i+2+ys.length:=by intro a b ys; simp[hdl]; omega
   have hset2:(dl V (w+i)++((V / 4294967296 ^ (w+i)%4294967296:Nat):Int)::0::List.replicate (m.length - (i+1)) 0).set (w+i+1) ((c (i+1):Nat):Int)=dl V (w+(i+1))++((c (i+1):Nat):Int)::List.replicate (m.length - (i+1)) 0:=by
    have:dl V (w+i)++((V / 4294967296 ^ (w+i)%4294967296:Nat):Int)::0::List.replicate (m.length - (i+1)) 0=dl V (w+(i+1))++0::List.replicate (m.length - (i+1)) 0:=by rw[<- agx,dl]; simp
    rw[this];exact be _ _ _ _ _ (by rw[al]; omega)
   rw[hset2,hl1,hl1];simp only[aha];rw[afO (by omega:(i:Int)<m.length),afR,aa afN,aa (afO (by omega)),aa afM,aa afN,aa (afO (by omega)),aa afN,aa (afO (by omega)),
    aa afM,aa afM,aa afN,aa (afO (by omega)),aa afM]
   rfl
  ·simp only[eE];rw[afP (by omega:¬(m.length:Int)<m.length),afQ,agq,agt];have hV:V<4294967296 ^ (w+m.length+1):=by have h1:=eQ hm;simp only[V];rw[hp2,af2,af8,agi,af0];refine ag0 ?_ (aU w);exact agz h1 (by omega) (by decide)
   have hT:T m.length=X:=by simp only[T,X]; rw[agy]
   have hend:dl V (w+m.length)++[((c m.length:Nat):Int)]=dl V (w+m.length+1):=by
    rw[dl];have:c m.length=V / 4294967296 ^ (w+m.length)%4294967296:=by simp only[c];rw[hT,hVX,af8,<- afX,agr _ (aU w)];rw[afZ];rw[afY (aU _),afS];have h1:=eQ hm;simp only[X];exact agz h1 (by omega) (by decide)
    rw[this]
   rw[hend,dj _ (jt V _) (by rw[al]; omega) (by rw[al]; omega),qt hV]
theorem CB {m:List Int} (hm:InW m) (j:Nat):∃ R,aD m / 4294967296 ^ j=(m.getD j 0).toNat+4294967296*(m.getD (j+1) 0).toNat+4294967296*4294967296*R:=by
 obtain⟨R,hR⟩:=bW m (j+2);refine⟨R,?_⟩;rw[hR,aQ,aQ];simp only[af2];have e:aD (m.take j)+4294967296 ^ j*(m.getD j 0).toNat+4294967296 ^ j*4294967296*(m.getD (j+1) 0).toNat+4294967296 ^ j*4294967296*4294967296*R
   = aD (m.take j)+4294967296 ^ j*((m.getD j 0).toNat+4294967296*(m.getD (j+1) 0).toNat+4294967296*4294967296*R):=by
  rw[af6,af6,af0,af0,af0,af0]; omega
 rw[e,dS,agm (bv hm j),agl]
theorem un {N:Nat} (n:Nat) (hn:n<18446744073709551616) (hN:4<N) (k:Kz9):Dg N n k=k (aj n):=by
 (unfold Dg; rw[ac]; unfold MT)
 have hw:InW [IntKind.wrap .u32 (n:Int),IntKind.wrap .u32 (Int.fdiv (n:Int) (2 ^ 32))]:=by intro x hx;simp only[dh,kz,ahc,ahS,or_false]at hx;rcases hx with rfl | rfl <;> omega
 have hv:aD [IntKind.wrap .u32 (n:Int),IntKind.wrap .u32 (Int.fdiv (n:Int) (2 ^ 32))]=n:=by simp only[aD,dh,kz]; omega
 rw[dj _ hw (by simp; omega) (by simp),hv]
def sg (neg:Bool) (n:Nat):Bool:=neg&&decide (n ≠ 0)
theorem nk (n:Nat):decide (((aj n).length:Int)>0)=decide (n ≠ 0):=by
 by_cases h:n=0
 ·subst h; rw[aZ]; simp
 ·obtain⟨-,h2⟩:=sx n h;rw[afO (by omega),afO h]
theorem Se (neg:Bool) (n:Nat) (k:Ky4):cond (neg==true) (k (decide (((aj n).length:Int)>0)) (aj n)) (k false (aj n))=k (sg neg n) (aj n):=by rw[nk];cases neg <;> rfl
theorem nC {N:Nat} (neg:Bool) (m:List Int) (b:Bool) (hm:InW m) (hN:fK N m) (k:Ky4):yW N neg m b k=k (sg neg (aD m)) (aj (aD m)):=by unfold yW RL;rw[Jj m hm (by have:=hN.1; omega) (by have:=hN.2; omega)];exact Se neg _ k
theorem uM {N:Nat} (n:Nat) (hn:n<18446744073709551616) (b:Bool) (hN:fK N (aj n)) (h4:4<N) (k:Ky4):Rx N n b k=k false (aj n):=by
 (unfold Rx; rw[ac]; unfold S3)
 rw[un n hn h4,nC false _ b (bf n) hN,aL];rfl
def aY (g:Bool) (n:Nat):Int:=if g=true then -(n:Int)else n
def uB (z:Int) (k:Ky4):Bool:=k (decide (z<0)) (aj z.natAbs)
theorem uu (g:Bool) (n:Nat) (k:Ky4):k (sg g n) (aj n)=uB (aY g n) k:=by
 unfold uB aY sg;cases g
 ·simp only[agR,ago,air,agK];rw[afP (by omega)]
 ·simp only[ahr,agW,ais,agK];congr 1;by_cases h:n=0
  ·subst h; rfl
  ·rw[afO h,afO (by omega)]
theorem Ob (z:Int):aY (decide (z<0)) z.natAbs=z:=by
 unfold aY;by_cases h:z<0
 ·rw[afO h]; simp; omega
 ·rw[afP h]; simp; omega
theorem tY {x y:Nat}:decide (dx x y>=0)=decide (y<=x):=by
 unfold dx;split
 ·rw[afP (by omega),afP (by omega)]
 ·split
  ·rw[afO (by omega),afO (by omega)]
  ·rw[afO (by omega),afO (by omega)]
theorem LV (g1 g2 turn:Bool) (n1 n2:Nat) (k:Ky4) :
  cond (g1==(g2 != turn)) (k (sg (g2 != turn) (n1+n2)) (aj (n1+n2))) (cond (decide (dx n1 n2>=0)) (k (sg g1 (n1 - n2)) (aj (n1 - n2))) (k (sg (g2 != turn) (n2 - n1)) (aj (n2 - n1))))
   = uB (aY g1 n1+(if turn=true then -(aY g2 n2)else aY g2 n2)) k:=by
 rw[uu _ _ k,uu _ _ k,uu _ _ k,tY];have key:∀ a b:Int,a=b->uB a k=uB b k:=λa b h=>by rw[h]
 cases g1 <;> cases g2 <;> cases turn <;> simp only[aY] <;> by_cases h:n2<=n1 <;> simp only[h,aiW,aiP,afR,afQ,bne,ahz,agH,agw,agR,ahr,ago,(by decide:(false==true)=false),(by decide:(true==false)=false)] <;> refine key _ _ ?_ <;> omega
theorem Ln {N:Nat} (turn b g1:Bool) (n1:Nat) (g2:Bool) (n2:Nat) (h1:fK N (aj n1)) (h2:fK N (aj n2)) (h3:fK N (aj (n1+n2))) (k:Ky4) :
  V0 N turn b g1 (aj n1) g2 (aj n2) k=uB (aY g1 n1+(if turn=true then -(aY g2 n2)else aY g2 n2)) k:=by
 (unfold V0; rw[ac]; unfold Ti)
 have hs:∀ m,m<=n1+n2->fK N (aj m):=λm hm=>by have:=bS hm;exact⟨by have:=h3.1; omega,by have:=h3.2; omega⟩
 rw[OG _ _ (bf _) (bf _) h1 h2,kn _ _ h1 h2,aL,aL,nC _ _ _ (bf _) h3,aL,<- LV];congr 1;by_cases h:n2<=n1
 ·rw[xJ _ _ (bf _) (bf _) (by rw[aL,aL]; exact h) h1,aL,aL,nC _ _ _ (bf _) (hs _ (by omega)),aL,tY,afO h];rfl
 ·rw[xJ _ _ (bf n2) (bf n1) (by rw[aL,aL]; omega) h2,aL,aL,nC _ _ _ (bf _) (hs _ (by omega)),aL,tY,afP h];rfl
theorem KX {N:Nat} (b g1:Bool) (n1:Nat) (g2:Bool) (n2:Nat) (h1:fK N (aj n1)) (h2:fK N (aj n2)) (h3:fK N (aj (n1+n2))) (k:Ky4) :
  O4 N b g1 (aj n1) g2 (aj n2) k=uB (aY g1 n1 - aY g2 n2) k:=by
 unfold O4 RK;rw[Ln true b g1 n1 g2 n2 h1 h2 h3]; rfl
def Xe (N m s:Nat):Prop:=(aj m).length+s / 32+4<N/\(aj m).length<=1099511627776/\s<4294967296/\fK N (aj (m*2 ^ s))
theorem CP {N:Nat} (s:Nat) (b g:Bool) (n:Nat) (h:Xe N n s) (k:Ky4):JI N s b g (aj n) k=uB (aY g (n*2 ^ s)) k:=by
 (unfold JI; rw[ac]; unfold Mr)
 rw[Oz _ (bf n) s h.2.2.1 h.1 h.2.1,aL,nC _ _ _ (bf _) h.2.2.2,aL,uu _ _ k]
theorem A0 {N:Nat} (n:Nat) (hn:n<9223372036854775808) (hs:fK N (aj n)) (h4:4<N) (k:Ky4):nt N n k=k false (aj n):=by
 (unfold nt wc; unfold Sl; rw[ac]; unfold Mw js)
 have e:IntKind.wrap .u64 (n:Int)=n:=by rw[am]; omega
 rw[afP (by omega:¬(n:Int)<0),afQ,e,un n (by omega) h4,nC _ _ _ (bf _) hs,aL];rfl
theorem NL:aj 1=[1]:=by rw[cj (by decide),aZ]; rfl
theorem kH (a b:Nat):Int.fdiv (a:Int) (b:Int)=((a / b:Nat):Int):=by rw[ahj _ (by omega)]; rfl
theorem rB (N:Nat) (k:Kz5):xV N 52 2047 1075 k=k 9223372036854775808:=by rfl
theorem ne (N:Nat) (k:Kz5):pk N 52 2047 1075 k=k 9218868437227405312:=by rfl
theorem kE (N:Nat) (k:Kz5):mO N 52 2047 1075 k=k 4503599627370496:=by rfl
theorem zp (N:Nat) (k:Kz5):xU N 52 2047 1075 k=k 9221120237041090561:=by
 (unfold xU; rw[ac]; unfold xi)
 simp only[ne,kE];exact aiY k (by decide)
theorem QG (N:Nat) (b:Nat) (k:Kz4):O5 N b 52 2047 1075 k=k (isNaN b):=by
 (unfold O5; rw[ac]; unfold Ms)
 simp only[rB,ne,pp];congr 1;rw[ahl,ahd,fv];omega
def cnb (b:Nat):Nat:=if isNaN b then 9221120237041090561 else b
theorem CU (N:Nat) (b:Nat) (k:Kz5):Pp N b 52 2047 1075 k=k (cnb b):=by unfold Pp Ww;simp only[QG,zp,cnb];cases isNaN b <;> rfl
theorem CZ (N:Nat) (b:Nat) (k:Kx9):Rw N b 52 2047 1075 k=k (aB .and .u64 (cnb b) 9223372036854775808 != 0) ((cnb b / 4503599627370496%2048:Nat):Int) ((cnb b%4503599627370496:Nat):Int):=by
 (unfold Rw; rw[ac]; unfold S2)
 simp only[CU,rB,kE];have e1:(2:Int) ^ (min (Int.toNat 52) 64)=((4503599627370496:Nat):Int):=by decide
 have e2:IntKind.wrap .u64 2047=((2 ^ 11 - 1:Nat):Int):=by decide
 have e3:IntKind.wrap .u64 (4503599627370496 - 1)=((2 ^ 52 - 1:Nat):Int):=by decide
 have e4:decide ((0:Int)<=52)=true:=by decide
 rw[e1,kH,e2,e3,kw _ _ (by decide),kw _ _ (by decide),e4,ab (by omega) (by omega)];rfl
theorem Dz (b:Nat):cls b=if (cnb b / 4503599627370496%2048)=2047 then(if cnb b%4503599627370496=0 then 2 else 1)else if cnb b / 4503599627370496%2048=0 then(if cnb b%4503599627370496=0 then 3 else 4)else 5:=by
 unfold cls cnb;by_cases h:isNaN b=true
 ·rw[if_pos h,if_pos h]; decide
 ·rw[if_neg h,if_neg h];have hn:¬(9218868437227405312<b%9223372036854775808):=λq=>h ((fv b).2 q)
  by_cases h1:b / 4503599627370496%2048=2047
  ·rw[if_pos h1,if_pos h1,if_pos (by omega)]
  ·rw[if_neg h1,if_neg h1]
theorem CV (N:Nat) (b:Nat) (k:Kz5):Rv N b 52 2047 1075 k=k (cls b):=by
 (unfold Rv; rw[ac]; unfold S1)
 simp only[CZ,Dz b];generalize cnb b / 4503599627370496%2048=e;generalize cnb b%4503599627370496=f;have d1:((e:Int)==2047)=decide (e=2047):=by rw[ahl,aht,ahd]; omega
 have d2:((e:Int)==0)=decide (e=0):=by rw[ahl,aht,ahd]; omega
 have d3:((f:Int)==0)=decide (f=0):=by rw[ahl,aht,ahd]; omega
 simp only[bne,d1,d2,d3];by_cases h1:e=2047 <;> by_cases h2:e=0 <;> by_cases h3:f=0 <;> simp[h1,h2,h3]
theorem KL (N:Nat) (b:Nat) (k:Kz5):sQ6 N b k=k (cls b):=by unfold sQ6 GQ6;simp only[Ef,uv,Dr,CV]
theorem NB (a b:Nat) (_ha:a<18446744073709551616\/True):decide ((cnb a:Int)=cnb b)=decide (cn (some a)=cn (some b)):=by
 have hq:isNaN 9221120237041090561=true:=by decide
 rw[ahl,ahd,ahd];have cf:∀ c,cn (some c)=if isNaN c=true then none else some c:=λ_=>rfl
 rw[cf,cf];unfold cnb;by_cases h1:isNaN a=true <;> by_cases h2:isNaN b=true
 ·simp[h1,h2]
 ·rw[if_pos h1,if_neg h2,if_pos h1,if_neg h2];refine⟨λh=>?_,λh=>by cases h⟩;have:b=9221120237041090561:=by omega
  rw[this]at h2; exact absurd hq h2
 ·rw[if_neg h1,if_pos h2,if_neg h1,if_pos h2];refine⟨λh=>?_,λh=>by cases h⟩;have:a=9221120237041090561:=by omega
  rw[this]at h1; exact absurd hq h1
 ·simp only[h1,h2,ago,agf,agR]; omega
theorem Qx (N:Nat) (b:Nat) (k:Kz7):Iw N b k=k (B8 (some b)):=by unfold Iw Wu;simp only[Ef,Bw,pp];rfl
theorem ND (b:Bool) (k:Kz4):cond b (k true) (k false)=k b:=by cases b <;> rfl
theorem il {a c:Bool} (h:a=true):(a&&c)=c:=by rw[h]; rfl
def ji (N n:Nat):Prop:=n<N/\n<=17592186044416
def xQ (l:List Int):List Fl:=l.map λn=>jF n.toNat
theorem pJ {N:Nat} (l:List Int) (hl:ji N l.length) (k:Kz8):y_ N l k=k (xQ l):=by
 (unfold y_; rw[ac]; unfold MX)
 refine(ax (λi=>((i:Int),(l.take i).map λn=>jF n.toNat)) l.length hl.1 (λi hi K=>?_) (λK=>?_):_)
 ·have h2:=hl.2;have e1:(l.take (i+1)).map (λn=>jF n.toNat)=(l.take i).map (λn=>jF n.toNat)++[jF (l.getD i 0).toNat]:=by rw[ag8 hi,ahw,List.getD_eq_getElem?_getD,List.getElem?_eq_getElem hi]; rfl
  simp only[mm,Bw,afV];rw[wo (by omega),afR,il afN,il (wo (by simp; omega)),il afM,e1];rfl
 ·simp only[mm];rw[xo (by omega),afQ,agy]; rfl
def aG (xs:List Fl):Bool:=zj (λi=>bC (xs.getD i none)) xs.length
theorem oa {N:Nat} (xs:List Fl) (hl:ji N xs.length) (k:Kz4):Bz N xs k=k (aG xs):=by
 (unfold Bz; rw[ac]; unfold MF)
 rw[<- ND (aG xs) k];refine(ny (λi=>(i:Int)) (λi=>bC (xs.getD i none)) xs.length hl.1 (λi hi K=>?_) (λK=>?_):_)
 ·have h2:=hl.2;simp only[k6,Po,afV];rw[wo (by omega),afR,il afN,il afM];have hc:=E0 (xs.getD i none);generalize Ai (xs.getD i none)=c at hc ⊢;generalize bC (xs.getD i none)=f at hc ⊢;have d1:(c==1)=decide (c=1):=rfl;have d2:(c==2)=decide (c=2):=rfl;rw[d1,d2];generalize decide (c=1)=u at *;generalize decide (c=2)=v at *;cases u <;> cases v <;> cases f <;> first | rfl | cases hc
 ·simp only[k6];rw[xo (by omega),afQ]
def mY:Fl->Nat
 | none=>9221120237041090561
 | some b=>cnb b
theorem Ip (d:Ieee.Datum) (h:d.isNaN=false):d.order d=some .eq:=by
 cases d with
 | nan s t=>cases h
 | infinity s=>simp[Ieee.Datum.order,compare,compareOfLessAndEq]
 | number s m i=>simp[Ieee.Datum.order,compare,compareOfLessAndEq]
theorem Kw (b:Nat) (h:isNaN b=false):(Ieee.double.order b b==some .eq)=true:=by unfold Ieee.Format.order;rw[Ip _ h]; rfl
theorem NX (b:Nat):feq (some b) (some b) = !isNaN b:=by
 cases h:isNaN b with
 | true=>simp[feq,wr,oi b h]
 | false=>simp only[feq,wr,agw]; exact Kw b h
theorem FH (N:Nat) (x:Fl) (k:Kz5):oq N x k=k (mY x):=by
 unfold oq zX wU;cases x with
 | none=>rfl
 | some b=>
  rw[NX];simp only[mY,cnb];cases isNaN b <;> rfl
theorem F9 (a b:Nat):Int.tmod (a:Int) (b:Int)=((a%b:Nat):Int):=by rw[agI (by omega)]; rfl
theorem CR (N:Nat) (x:Fl) (k:Kx9):oZ N x k=k (Int.fdiv (mY x:Int) (2 ^ 63)==1) ((mY x / 4503599627370496%2048:Nat):Int) ((mY x%4503599627370496:Nat):Int):=by
 (unfold oZ; rw[ac]; unfold sa)
 simp only[FH];have e1:(2:Int) ^ 52=((4503599627370496:Nat):Int):=by decide
 have e2:(2048:Int)=((2048:Nat):Int):=rfl;have e3:(4503599627370496:Int)=((4503599627370496:Nat):Int):=rfl;rw[e1,e2,e3,kH,F9,F9,ab (by omega) (by omega)];rfl
theorem Kp (x:Fl):Ai x=if (mY x / 4503599627370496%2048)=2047 then(if mY x%4503599627370496=0 then 2 else 1)else if mY x / 4503599627370496%2048=0 then(if mY x%4503599627370496=0 then 3 else 4)else 5:=by
 cases x with
 | none=>decide
 | some b=>exact Dz b
theorem Cd (N:Nat) (x:Fl) (k:Kz5):tu N x k=k (Ai x):=by
 (unfold tu yh; unfold Sq; rw[ac]; unfold M6)
 simp only[CR,Kp x];generalize mY x / 4503599627370496%2048=e;generalize mY x%4503599627370496=f;have d1:((e:Int)==2047)=decide (e=2047):=by rw[ahl,aht,ahd]; omega
 have d2:((e:Int)==0)=decide (e=0):=by rw[ahl,aht,ahd]; omega
 have d3:((f:Int)==0)=decide (f=0):=by rw[ahl,aht,ahd]; omega
 simp only[bne,d1,d2,d3];by_cases h1:e=2047 <;> by_cases h2:e=0 <;> by_cases h3:f=0 <;> simp[h1,h2,h3]
theorem sK (N:Nat) (x:Fl) (k:Kz4):nu N x k=k (bC x):=by
 unfold nu we;simp only[Cd];congr 1;have h1:=E0 x;have h2:=P5 x;rw[ahl,ahd];cases hf:bC x with
 | true=>
  rw[hf]at h1;simp only[agH,Bool.or_eq_false_iff,aii]at h1;exact⟨λ_=>rfl,λ_=>by omega⟩
 | false=>
  rw[hf]at h1;simp only[agw,ai6,ahF]at h1;exact⟨λ_=>by omega,λh=>by cases h⟩
theorem ph {N:Nat} (xs:List Fl) (hl:ji N xs.length) (k:Kz4):Pu N xs k=k (aG xs):=by
 (unfold Pu; rw[ac]; unfold To)
 rw[<- ND (aG xs) k];refine(ny (λi=>(i:Int)) (λi=>bC (xs.getD i none)) xs.length hl.1 (λi hi K=>?_) (λK=>?_):_)
 ·have h2:=hl.2;simp only[gj,afV,sK];rw[wo (by omega),afR,il afN,il afM];cases bC (xs.getD i none) <;> rfl
 ·simp only[gj];rw[xo (by omega),afQ]
theorem Nm (x y:Fl):((mY x:Int)==mY y)=decide (cn x=cn y):=by
 have hq:cn (some 9221120237041090561)=none:=by decide
 have hb:cnb 9221120237041090561=9221120237041090561:=by decide
 have key:∀ x,∃ a,mY x=cnb a/\cn x=cn (some a):=by
  intro x;cases x with
  | none=>exact⟨9221120237041090561,hb.symm,hq.symm⟩
  | some b=>exact⟨b,rfl,rfl⟩
 obtain⟨a,e1,e2⟩:=key x;obtain⟨b,e3,e4⟩:=key y;rw[e1,e2,e3,e4,<- NB a b (.inr trivial)];rfl
theorem DW (N:Nat) (x y:Fl) (k:Kz4):vQ N x y k=k (decide (cn x=cn y)):=by
 (unfold vQ; rw[ac]; unfold u_)
 simp only[FH,Nm]
theorem f_ {n i j:Nat} (hi:i<n) (hj:j<n):i*n+j<n*n:=by have:(i+1)*n<=n*n:=afT n hi;rw[agk]at this; omega
theorem rE {n:Nat} (h:n<=12):n*n<=144:=agG h h
def chk (r c:Int) (xs:List Fl):Int:=if (0<=r/\r<=12)/\(0<=c/\c<=12)then(if (xs.length:Int)=r*c then(if aG xs=true then 0 else 4)else 3)else 1
theorem Re {r c:Int} (hr:0<=r/\r<=12) (hc:0<=c/\c<=12):af .i64 (r*c)=true:=by have h1:0<=r*c:=Int.mul_nonneg hr.1 hc.1;have h2:r*c<=12*12:=Int.mul_le_mul hr.2 hc.2 hc.1 (by decide);exact ab (by omega) (by omega)
theorem kx {r c:Int} {xs:List Fl}:chk r c xs=0↔((0<=r/\r<=12)/\(0<=c/\c<=12))/\(xs.length:Int)=r*c/\aG xs=true:=by
 unfold chk;split
 ·split
  ·split
   ·simp[*]
   ·simp[*]
  ·simp[*]
 ·simp[*]
def elt (xs:List Fl) (n i j:Nat):Fl:=xs.getD (i*n+j) none
def Xr (xs:List Fl) (n i:Nat):Bool:=fgt (elt xs n i i) (some 0)
theorem Jx (V x Bk bk i k:Nat):V%4294967296 ^ (i+k+1)+x*(Bk+4294967296 ^ k*bk)*4294967296 ^ i=(V%4294967296 ^ (i+k)+x*Bk*4294967296 ^ i)+4294967296 ^ (i+k)*(V / 4294967296 ^ (i+k)%4294967296+x*bk):=by rw[Nat.mod_pow_succ,af8];grind
theorem Hn (V x Bk bk i k:Nat):(V%4294967296 ^ (i+k+1)+x*(Bk+4294967296 ^ k*bk)*4294967296 ^ i) / 4294967296 ^ (i+k+1)=((V%4294967296 ^ (i+k)+x*Bk*4294967296 ^ i) / 4294967296 ^ (i+k)+V / 4294967296 ^ (i+k)%4294967296+x*bk) / 4294967296:=by rw[Jx,af2,<- afX,agL _ _ (agZ (by decide)),agx]
theorem EX (V x Bk bk i k R:Nat):(V+x*(Bk+4294967296 ^ k*bk+4294967296 ^ (k+1)*R)*4294967296 ^ i) / 4294967296 ^ (i+k)%4294967296=((V%4294967296 ^ (i+k)+x*Bk*4294967296 ^ i) / 4294967296 ^ (i+k)+V / 4294967296 ^ (i+k)%4294967296+x*bk)%4294967296:=by
 have e:V+x*(Bk+4294967296 ^ k*bk+4294967296 ^ (k+1)*R)*4294967296 ^ i=(V%4294967296 ^ (i+k+1)+x*(Bk+4294967296 ^ k*bk)*4294967296 ^ i)+4294967296 ^ (i+k+1)*(V / 4294967296 ^ (i+k+1)+x*R):=by
  have h:=agJ V (4294967296 ^ (i+k+1));have h2:4294967296 ^ (i+k+1)=4294967296 ^ (k+1)*4294967296 ^ i:=by rw[<- af8]; congr 1; omega
  generalize V / 4294967296 ^ (i+k+1)=q at *;generalize V%4294967296 ^ (i+k+1)=r at *;rw[<- h,h2];grind
 rw[mu e,Jx,agL _ _ (agZ (by decide)),agx]
theorem Nx {V x Bk i k:Nat} (hx:x<4294967296) (hB:Bk<4294967296 ^ k):(V%4294967296 ^ (i+k)+x*Bk*4294967296 ^ i) / 4294967296 ^ (i+k)<4294967296:=by
 rw[afY (agZ (by decide))];have h1:V%4294967296 ^ (i+k)<4294967296 ^ (i+k):=af4 _ (agZ (by decide));have h2:x*Bk<=4294967295*4294967296 ^ k:=agG (by omega) (by omega);have h3:x*Bk*4294967296 ^ i<=4294967295*4294967296 ^ (i+k):=by
  have:=afT (4294967296 ^ i) h2
  rwa [af0 4294967295,<- af8,ahK k i]at this
 omega
theorem t_ (S:Nat) {L i:Nat} (h:i<L):(dl S L).getD i 0=((S / 4294967296 ^ i%4294967296:Nat):Int):=by
 induction L with
 | zero=>omega
 | succ L ih=>
  show((dl S L)++[_]).getD i 0=_;rw[List.getD_eq_getElem?_getD];by_cases hi:i<L
  ·rw[List.getElem?_append_left (by rw[al]; exact hi),<- List.getD_eq_getElem?_getD,ih hi]
  ·have:i=L:=by omega
   subst this;rw[List.getElem?_append_right (by rw[al]; exact af1 _),al,agq]; rfl
theorem cW {l:List Int} {n:Nat} (h:n<l.length):l.drop n=l.getD n 0::l.drop (n+1):=by rw[List.drop_eq_getElem_cons h,List.getD_eq_getElem?_getD,List.getElem?_eq_getElem h]; rfl
theorem rD {b:List Int} {k:Nat}:aD (b.take (k+1))=aD (b.take k)+4294967296 ^ k*(b.getD k 0).toNat:=aQ k
theorem As (U V L p:Nat) (h:p<L):(dl U p++(dl V L).drop p).set p ((U / 4294967296 ^ p%4294967296:Nat):Int)=dl U (p+1)++(dl V L).drop (p+1):=by rw[cW (by rw[al]; exact h),be _ _ _ _ _ (by rw[al])];show _=(dl U p++[_])++_;rw[af7]; rfl
theorem Hu (U V L p:Nat) (h:p<L):(dl U p++(dl V L).drop p).getD p 0=((V / 4294967296 ^ p%4294967296:Nat):Int):=by rw[cW (by rw[al]; exact h),bT (by rw[al]),t_ V h]
theorem Ar (U V L p:Nat) (h:p<=L):(dl U p++(dl V L).drop p).length=L:=by simp[al]; omega
theorem Kt {U L p:Nat} (hU:U<4294967296 ^ p) (h:p<=L) {V:Nat} (hV:V<4294967296 ^ p):dl U p++(dl V L).drop p=dl U L:=by
 induction L with
 | zero=>
  have:p=0:=by omega
  subst this; rfl
 | succ L ih=>
  by_cases hp:p=L+1
  ·subst hp; rw[agB (by rw[al]; omega),agp]
  ·have hpL:p<=L:=by omega
   have e:∀ X,X<4294967296 ^ p->dl X (L+1)=dl X L++[0]:=by intro X hX;show dl X L++[((X / 4294967296 ^ L%4294967296:Nat):Int)]=_;rw[agm (af9 hX (af5 (by decide) hpL))]; rfl
   rw[e V hV,e U hU,agS (by rw[al]; exact hpL),<- af7,ih hpL]
theorem vG {a:List Int} (ha:InW a) (i:Nat):aD (a.take i)<4294967296 ^ i:=bv ha i
theorem vF {x y i j:Nat} (hx:x<4294967296 ^ i) (hy:y<4294967296 ^ j):x*y<4294967296 ^ (i+j):=by rw[af8];exact ai3 hx hy
theorem xM {N:Nat} (a b:List Int) (ha:InW a) (hb:InW b) (hN:a.length+b.length+2<N) (hs:a.length+b.length<=17592186044416) (k:Kz9):zw N a b k=k (aj (aD a*aD b)):=by
  (unfold zw; rw[ac]; unfold Tk)
  have eL:Int.toNat (((a.length:Nat):Int)+((b.length:Nat):Int))=a.length+b.length:=by omega
  rw[aa afM,aa (bE (by omega) (by omega) (by omega) (by omega)),eL]
  let L:=a.length+b.length
  let B:=aD b
  have hB:B<4294967296 ^ b.length:=eQ hb;refine aH (λi=>((i:Int),dl (aD (a.take i)*B) L)) a.length ?_ (by omega) (λi hi K=>?_) (λK=>?_)
  · show((0:Int),List.replicate L (0:Int))=(((0:Nat):Int),dl (aD (a.take 0)*B) L)
    have:=vq L 0;rw[ahb]at this;rw[ah8,show aD []=0 from rfl,ahe,this]; rfl
  · simp only[lj]
    rw[afO (by omega:(i:Int)<a.length),afR];have hx:=ha.at (i:=i)
    let V:=aD (a.take i)*B
    let x:=(a.getD i 0).toNat
    let U:=aD (a.take (i+1))*B
    have hU:U=V+x*B*4294967296 ^ i:=by simp only[U,V,x];rw[rD];grind
    have hV:V<4294967296 ^ (i+b.length):=vF (vG ha i) hB;have hUl:U<4294967296 ^ (i+1+b.length):=vF (vG ha (i+1)) hB
    let c:=λj=>(V%4294967296 ^ (i+j)+x*aD (b.take j)*4294967296 ^ i) / 4294967296 ^ (i+j)
    refine aH (λj=>(((c j:Nat):Int),(j:Int),dl U (i+j)++(dl V L).drop (i+j))) b.length ?_ (by omega) (λj hj K'=>?_) (λK'=>?_)
    · show((0:Int),(0:Int),dl V L)=_
      have h0:c 0=0:=by simp only[c,ah8,show aD []=0 from rfl,ahb,ahe,agn];exact agm (af4 _ (agZ (by decide)))
      have hlow:dl U i=dl V i:=by
        have:∀ n,n<=i->dl U n=dl V n:=by
          intro n;induction n with
          | zero=>intro _; rfl
          | succ n ih=>
            intro hn;show dl U n++[_]=dl V n++[_];rw[ih (by omega)];congr 3;have:U=V+4294967296 ^ (n+1)*(x*B*4294967296 ^ (i - (n+1))):=by rw[hU,agi,<- af8,show n+1+(i - (n+1))=i by omega]
            exact mu this
        exact this i (af1 _)
      have hsp:dl V i++(dl V L).drop i=dl V L:=by
        have:∀ n,i<=n->dl V i++(dl V n).drop i=dl V n:=by
          intro n;induction n with
          | zero=>intro h; have:i=0:=(by omega); subst this; rfl
          | succ n ih=>
            intro h;by_cases hn:i=n+1
            · subst hn; rw[agB (by rw[al]; omega),agp]
            · show dl V i++(dl V n++[_]).drop i=dl V n++[_]
              rw[agS (by rw[al]; omega),<- af7,ih (by omega)]
        exact this L (by simp only[L]; omega)
      rw[h0,agn,hlow,hsp]; rfl
    · have hy:=hb.at (i:=j)
      have hp:i+j<L:=by simp only[L]; omega
      have hlen:=Ar U V L (i+j) (by omega);have hget:=Hu U V L (i+j) hp;have hset:=As U V L (i+j) hp;have hc:=Nx (V:=V) (x:=x) (i:=i) (k:=j) (Bk:=aD (b.take j)) (by simp only[x]; omega) (vG hb j);have hstep:=Hn V x (aD (b.take j)) (b.getD j 0).toNat i j;obtain⟨R,hR⟩:=bW b (j+1);have hdig:=EX V x (aD (b.take j)) (b.getD j 0).toNat i j R;rw[<- rD]at hstep hdig;rw[<- hR]at hdig;have hUe:V+x*aD b*4294967296 ^ i=U:=hU.symm;rw[hUe]at hdig;have hxy:x*(b.getD j 0).toNat<=4294967295*4294967295:=agG (by simp only[x]; omega) (by omega);have eidx:Int.toNat ((i:Int)+(j:Int))=i+j:=by omega
      have hcj:∀ n,c n=(V%4294967296 ^ (i+n)+x*aD (b.take n)*4294967296 ^ i) / 4294967296 ^ (i+n):=λ_=>rfl
      have hax:a.getD i 0=(x:Int):=by simp only[x]; omega
      have hby:b.getD j 0=((b.getD j 0).toNat:Int):=by omega
      simp only[ll,afV,eidx,hlen,hget];rw[afO (by omega:(j:Int)<b.length),afR,aa afN,aa afN,aa afM,aa afN,aa (afO (by omega)),aa afM,aa afN,aa (afO (by omega)),aa afM];have ec1:c (j+1)=(c j+V / 4294967296 ^ (i+j)%4294967296+x*(b.getD j 0).toNat) / 4294967296:=hstep;have ed:U / 4294967296 ^ (i+j)%4294967296=(c j+V / 4294967296 ^ (i+j)%4294967296+x*(b.getD j 0).toNat)%4294967296:=hdig;have hcl:c j<4294967296:=hc;rw[ed]at hset;have vlt:V / 4294967296 ^ (i+j)%4294967296<4294967296:=af4 _ (by decide);rw[hax,hby,show i+(j+1)=i+j+1 by omega,<- hset];generalize V / 4294967296 ^ (i+j)%4294967296=v at *;generalize (b.getD j 0).toNat=y at *;generalize dl U (i+j)++(dl V L).drop (i+j)=l at *;have et:∀ q:Nat,q=c j+v+x*y->IntKind.wrap .u64 ((IntKind.wrap .u64 ((IntKind.wrap .u64 ((IntKind.wrap .u64 (x:Int))*(IntKind.wrap .u64 (y:Int))))+(IntKind.wrap .u64 (v:Int))))+((c j:Nat):Int))=(q:Int):=by
        intro q hq;have exy:((x:Int))*(y:Int)=((x*y:Nat):Int):=by rw[aga]
        have hxl:x<4294967296:=by simp only[x]; omega
        have hyl:y<4294967296:=by omega
        have w1:IntKind.wrap .u64 (x:Int)=x:=by rw[am]; omega
        have w2:IntKind.wrap .u64 (y:Int)=y:=by rw[am]; omega
        rw[w1,w2,exy,am,am,am,am];omega
      rw[et _ rfl,ec1,kz,dh];congr 1
    · simp only[ll]
      rw[afP (by omega:¬(b.length:Int)<b.length),afQ];have hlen:=Ar U V L (i+b.length) (by simp only[L]; omega);have hset:=As U V L (i+b.length) (by simp only[L]; omega);have eidx:Int.toNat ((i:Int)+(b.length:Int))=i+b.length:=by omega
      have hLe:i+b.length<L:=by simp only[L]; omega
      have hc:c b.length=U / 4294967296 ^ (i+b.length):=by simp only[c];rw[agy,afZ hV,hU]
      have hcl:U / 4294967296 ^ (i+b.length)<4294967296:=by
        rw[afY (agZ (by decide))];have:i+1+b.length=i+b.length+1:=by omega
        rw[this,af2]at hUl;omega
      have ew:IntKind.wrap .u32 ((c b.length:Nat):Int)=((U / 4294967296 ^ (i+b.length)%4294967296:Nat):Int):=by rw[dh,hc]; omega
      have hfin:=Kt (U:=U) (V:=V) (L:=L) (p:=i+b.length+1) (by rw[show i+b.length+1=i+1+b.length by omega]; exact hUl) (by omega) (af9 hV (af5 (by decide) (by omega)));rw[aa afM,eidx,hlen,aa afN,aa (afO (by omega)),aa afM,ew,hset,hfin];rfl
  · simp only[lj]
    rw[afP (by omega:¬(a.length:Int)<a.length),afQ,agy,dj _ (jt _ _) (by rw[al]; simp only[L]; omega) (by rw[al]; simp only[L]; omega)];rw[qt (vF (eQ ha) hB)]
theorem AR (g h:Bool) (m n:Nat):aY (g != h) (m*n)=aY g m*aY h n:=by unfold aY;rw[aga];cases g <;> cases h <;> simp[aiZ,aiJ]
theorem Fa (n:Nat):bM (aj n) (aj n).length=(aj n).length:=by
 have ht:(aj n).take (bM (aj n) (aj n).length)=aj n:=by rw[tK (bf n),aL]
 have hc:=kf (aj n) (aj n).length;have:=aiY List.length ht;rw[agv]at this; omega
theorem QW (g:Bool) (n:Nat) (k:Ky4):cond ((!g)==true) (k (decide (((aj n).length:Int)>0)) (aj n)) (k false (aj n))=uB (-(aY g n)) k:=by rw[Se,uu _ _ k];congr 1;unfold aY; cases g <;> simp
theorem CQ {N:Nat} (g:Bool) (n:Nat) (hN:fK N (aj n)) (k:Ky4):Ph N g (aj n) k=uB (-(aY g n)) k:=by
 (unfold Ph; rw[ac]; unfold MP tD sk)
 obtain⟨h1,h2⟩:=hN;rw[agD,afO (by omega),agW,lR _ (by omega) (by omega),Fa];simp only[ahh,agy];rw[afO (by omega:0+(aj n).length<=(aj n).length),agW];exact QW g n k
def aT (B:Nat) (n:Nat):Prop:=n<2 ^ B
theorem cu:∀(j n:Nat),n<4294967296 ^ j->(aj n).length<=j
 | 0,n,h=>by
  have:n=0:=by simp at h; exact h
  subst this; rw[aZ]; exact af1 _
 | j+1,n,h=>by
  by_cases h0:n=0
  ·subst h0; rw[aZ]; simp
  ·rw[cj h0,ags];have:n / 4294967296<4294967296 ^ j:=ahM (by rw[af2]at h; omega);have:=cu j _ this;omega
theorem W3 (j:Nat):4294967296 ^ j=2 ^ (32*j):=by rw[aiI]
theorem Ac {B n:Nat} (h:aT B n):(aj n).length<=B / 32+1:=by refine cu _ _ ?_;rw[W3];exact af9 h (af5 (by decide) (by omega))
theorem Hi {N B n:Nat} (hN:1000<=N) (hB:B<=31000) (h:aT B n):fK N (aj n):=by have:=Ac h;exact⟨by omega,by omega⟩
theorem bK {A B n:Nat} (h:aT A n) (hAB:A<=B):aT B n:=af9 h (af5 (by decide) hAB)
theorem dw {A B m n:Nat} (h:aT A m) (g:aT B n):aT (A+B) (m*n):=by unfold aT; rw[af8]; exact ai3 h g
theorem vl {A m:Nat} (h:aT A m) (s:Nat):aT (A+s) (m*2 ^ s):=by unfold aT; rw[af8]; exact agE h (af3 s)
theorem wl {A m n:Nat} (h:aT A m) (g:aT A n):aT (A+1) (m+n):=by unfold aT at *; rw[af2]; omega
theorem l_ {A m n:Nat} (h:aT A m) (g:n<=m):aT A n:=ahn g h
theorem Ct {N B n s:Nat} (hN:1000<=N) (hB:B+s<=31000) (h:aT B n):Xe N n s:=by have h1:=Ac h;exact⟨by omega,by omega,by omega,Hi hN hB (vl h s)⟩
def exK (z:Int × Int) (k:Int->Bool->List Int->Bool):Bool:=k z.1 (decide (z.2<0)) (aj z.2.natAbs)
def yD (x y:Int × Int):Int × Int:=(x.1+y.1,x.2*y.2)
def R5 (x:Int × Int):Int × Int:=(x.1,-x.2)
def sD (x:Int × Int) (e:Int):Int:=x.2*2 ^ (x.1 - e).toNat
def I_ (x y:Int × Int):Int × Int:=if x.2=0 then y else if y.2=0 then x else(min x.1 y.1,sD x (min x.1 y.1)+sD y (min x.1 y.1))
def Ex (E B:Nat) (x:Int × Int):Prop:=-(E:Int)<=x.1/\x.1<=E/\aT B x.2.natAbs
def w8 (z:Int):Int:=if z=0 then 0 else if z<0 then -1 else 1
def av:List Int->Nat
 | []=>0
 | x::r=>x.toNat+18446744073709551616*av r
def InWq (m:List Int):Prop:=∀ x ∈ m,0<=x/\x<18446744073709551616
def ae (n:Nat):List Int:=if h:n=0 then[]else((n%18446744073709551616:Nat):Int)::ae (n / 18446744073709551616)
termination_by n
decreasing_by omega
theorem bg:ae 0=[]:=by rw[ae]; simp
theorem bN {n:Nat} (h:n ≠ 0):ae n=((n%18446744073709551616:Nat):Int)::ae (n / 18446744073709551616):=by rw[ae]; simp[h]
theorem aX:∀ n,InWq (ae n):=by
 intro n;induction n using Nat.strongRecOn with
 | ind n ih=>
  by_cases h:n=0
  ·subst h; rw[bg]; intro x hx; cases hx
  ·rw[bN h];intro x hx;rcases List.mem_cons.1 hx with rfl | hx
   ·omega
   ·exact ih (n / 18446744073709551616) (by omega) x hx
theorem aC:∀ n,av (ae n)=n:=by
 intro n;induction n using Nat.strongRecOn with
 | ind n ih=>
  by_cases h:n=0
  ·subst h; rw[bg]; rfl
  ·rw[bN h,av,ih (n / 18446744073709551616) (by omega),afV];omega
theorem np (a b:List Int):av (a++b)=av a+18446744073709551616 ^ a.length*av b:=by
 induction a with
 | nil=>simp[av]
 | cons x r ih=>
  rw[ahA,av,ih,av,ags,af2,af6,afS (18446744073709551616 ^ r.length) 18446744073709551616,af0];omega
theorem InWq.take {m:List Int} (h:InWq m) (n:Nat):InWq (m.take n):=λx hx=>h x (aiC hx)
theorem InWq.drop {m:List Int} (h:InWq m) (n:Nat):InWq (m.drop n):=λx hx=>h x (aiB hx)
theorem InWq.cons {x:Int} {m:List Int} (h:InWq (x::m)):(0<=x/\x<18446744073709551616)/\InWq m:=⟨h x (by simp),λy hy=>h y (by simp[hy])⟩
theorem InWq.at {m:List Int} (h:InWq m) {i:Nat}:0<=m.getD i 0/\m.getD i 0<18446744073709551616:=by
 rw[List.getD_eq_getElem?_getD];by_cases hi:i<m.length
 ·rw[List.getElem?_eq_getElem hi]; exact h _ (ag1 hi)
 ·rw[List.getElem?_eq_none (by omega)]; exact⟨by decide,by decide⟩
theorem iM:∀{m:List Int},InWq m->av m<18446744073709551616 ^ m.length
 | [],_=>by simp[av]
 | x::r,h=>by have ih:=iM h.cons.2;have hx:=h.cons.1;rw[av,ags,af2];have:av r+1<=18446744073709551616 ^ r.length:=ih;have:=afT 18446744073709551616 this;omega
theorem Ao:∀{m:List Int},InWq m->(∀ x,m.getLast? = some x->x ≠ 0)->ae (av m)=m
 | [],_,_=>bg
 | [x],h,hl=>by
  have hx:=h.cons.1;have h0:x ≠ 0:=hl x rfl;have e:av [x]=x.toNat:=by simp[av]
  rw[e,bN (by omega),agm (by omega),bg,afZ (by omega),aic hx.1]
 | x::y::r,h,hl=>by
  have hx:=h.cons.1;have ih:=Ao h.cons.2 (λz hz=>hl z (by rw[List.getLast?_cons_cons]; exact hz));have hne:av (y::r) ≠ 0:=by intro h0;rw[h0,bg]at ih; cases ih
  have e1:av (x::y::r)=x.toNat+18446744073709551616*av (y::r):=rfl;rw[e1,bN (by omega)];have e2:(x.toNat+18446744073709551616*av (y::r))%18446744073709551616=x.toNat:=by omega
  have e3:(x.toNat+18446744073709551616*av (y::r)) / 18446744073709551616=av (y::r):=by omega
  rw[e2,e3,ih,aic hx.1]
theorem zt {m:List Int} {i:Nat} (hi:i<m.length):av (m.take (i+1))=av (m.take i)+18446744073709551616 ^ i*(m.getD i 0).toNat:=by rw[ag8 hi,np,agv,ahf (by omega),List.getD_eq_getElem?_getD,List.getElem?_eq_getElem hi];simp[av]
theorem zr (n:Nat):av (List.replicate n 0)=0:=by
 induction n with
 | zero=>rfl
 | succ n ih=>rw[agA,av,ih]; rfl
def dlq (S:Nat):Nat->List Int
 | 0=>[]
 | n+1=>dlq S n++[((S / 18446744073709551616 ^ n%18446744073709551616:Nat):Int)]
theorem ak (S:Nat):∀ n,(dlq S n).length=n
 | 0=>rfl
 | n+1=>by simp[dlq,ak S n]
theorem gM (S:Nat):∀ n,InWq (dlq S n)
 | 0=>λx hx=>by cases hx
 | n+1=>λx hx=>by
  rcases List.mem_append.1 hx with h | h
  ·exact gM S n x h
  ·simp only[aiQ]at h;subst h;omega
theorem pM (S:Nat):∀ n,av (dlq S n)=S%18446744073709551616 ^ n
 | 0=>by simp[dlq,av,aiF]
 | n+1=>by rw[dlq,np,ak,pM S n,af2,aiG];simp only[av,afV,ahb,agn]
theorem ua (S n m:Nat) (h:n<m):(dlq S n++List.replicate (m - n) 0).set n ((S / 18446744073709551616 ^ n%18446744073709551616:Nat):Int)=dlq S (n+1)++List.replicate (m - (n+1)) 0:=by
 rw[ahZ _ _ (by rw[ak]; exact af1 _),ak,agq];have:m - n=(m - (n+1))+1:=by omega
 rw[this,agA];simp[dlq]
theorem mv {S n:Nat} (h:S<18446744073709551616 ^ n):ae (av (dlq S n))=ae S:=by rw[pM,afZ h]
theorem aM {m:List Int} (i:Nat):av (m.take (i+1))=av (m.take i)+18446744073709551616 ^ i*(m.getD i 0).toNat:=by
 by_cases h:i<m.length
 ·exact zt h
 ·rw[dY (by omega),agb (by omega),agb (by omega)]; simp
theorem qp (b:List Int):∀ n,av (b.take (bM b n))=av (b.take n)
 | 0=>rfl
 | n+1=>by
  unfold bM;split
  ·rename_i h;rw[qp b n,aM,h]; simp
  ·rfl
theorem xd {b:List Int} (hb:InWq b):b.take (bM b b.length)=ae (av b):=by have h1:=qp b b.length;rw[agy]at h1;rw[<- h1,Ao (hb.take _) (sv b b.length (af1 _))]
theorem cE (T A i:Nat):(T+18446744073709551616 ^ i*A) / 18446744073709551616 ^ i=T / 18446744073709551616 ^ i+A:=agL _ _ (agZ (by decide))
theorem F8 (m:List Int) (i:Nat):av m=av (m.take i)+18446744073709551616 ^ (m.take i).length*av (m.drop i):=by rw[<- np,aiu]
theorem bF (m:List Int) (i:Nat):∃ R,av m=av (m.take i)+18446744073709551616 ^ i*R:=by
 by_cases h:i<=m.length
 ·refine⟨av (m.drop i),?_⟩;have:=F8 m i
  rwa [agv,ahf h]at this
 ·exact⟨0,by rw[agb (by omega)]; simp⟩
theorem aR {m:List Int} (h:InWq m) (i:Nat):av (m.take i)<18446744073709551616 ^ i:=by
 have h1:=iM (h.take i);have h2:(m.take i).length<=i:=by simp; omega
 exact af9 h1 (af5 (by decide) h2)
theorem iS {S T R i:Nat} (h:S=T+18446744073709551616 ^ (i+1)*R):S / 18446744073709551616 ^ i%18446744073709551616=T / 18446744073709551616 ^ i%18446744073709551616:=by rw[h,af2,af0,cE,ag7]
theorem Ir (i:Nat):0<18446744073709551616 ^ i:=agZ (by decide)
theorem CA {P A B x y o R1 R2 D a b:Nat} (hA:A<P) (hB:B<P) (ho:o=if A<B then 1 else 0) (h1:a=A+P*x+P*18446744073709551616*R1) (h2:b=B+P*y+P*18446744073709551616*R2) (hD:(D:Int)=(a:Int) - (b:Int)) :
  ((D / P:Nat):Int)=(x:Int) - (y:Int) - (o:Int)+18446744073709551616*((R1:Int) - (R2:Int)):=by
 have he:∃ e:Nat,e<P/\(e:Int)=(A:Int) - (B:Int)+(P:Int)*(o:Int):=by
  rw[ho];split
  ·exact⟨A+P - B,by omega,by omega⟩
  ·exact⟨A - B,by omega,by omega⟩
 obtain⟨e,he1,he2⟩:=he;refine AM (e:=e) ?_ he1;have e1:(a:Int)=A+(P:Int)*x+18446744073709551616*((P:Int)*R1):=by rw[h1,af0,agi]; simp
 have e2:(b:Int)=B+(P:Int)*y+18446744073709551616*((P:Int)*R2):=by rw[h2,af0,agi]; simp
 have e3:(P:Int)*((x:Int) - (y:Int) - (o:Int)+18446744073709551616*((R1:Int) - (R2:Int)))=(P:Int)*x - (P:Int)*y - (P:Int)*o+(18446744073709551616*((P:Int)*R1) - 18446744073709551616*((P:Int)*R2)):=by rw[Int.mul_add,aid,aid,Int.mul_left_comm,aid,aid]
 rw[hD,e1,e2,e3,he2];omega
theorem dc {x y:Nat} (h:x<=y):(ae x).length<=(ae y).length:=by
 induction y using Nat.strongRecOn generalizing x with
 | ind y ih=>
  by_cases hx:x=0
  ·subst hx; rw[bg]; simp
  ·rw[bN hx,bN (by omega:y ≠ 0)];simp only[ags];have:=ih (y / 18446744073709551616) (by omega) (x:=x / 18446744073709551616) (ah6 h);omega
theorem sA:∀(w X:Nat),dlq (18446744073709551616 ^ w*X) w=List.replicate w 0:=by
 intro w;have key:∀ n,n<=w -> ∀ X,dlq (18446744073709551616 ^ w*X) n=List.replicate n 0:=by
  intro n;induction n with
  | zero=>intro _ X; rfl
  | succ n ih=>
   intro hn X;rw[dlq,ih (by omega),ahp];have e:18446744073709551616 ^ w*X=18446744073709551616 ^ n*(18446744073709551616*(18446744073709551616 ^ (w - n - 1)*X)):=by rw[<- af0,<- af0,<- af2,<- af8];congr 2; omega
   rw[e,agr _ (Ir n),aiV];rfl
 exact key w (af1 _)
theorem f9:∀(j n:Nat),n<18446744073709551616 ^ j->(ae n).length<=j
 | 0,n,h=>by
  have:n=0:=by simp at h; exact h
  subst this; rw[bg]; exact af1 _
 | j+1,n,h=>by
  by_cases h0:n=0
  ·subst h0; rw[bg]; simp
  ·rw[bN h0,ags];have:n / 18446744073709551616<18446744073709551616 ^ j:=ahM (by rw[af2]at h; omega);have:=f9 j _ this;omega
theorem F7 (V x Bk bk i k:Nat):V%18446744073709551616 ^ (i+k+1)+x*(Bk+18446744073709551616 ^ k*bk)*18446744073709551616 ^ i=(V%18446744073709551616 ^ (i+k)+x*Bk*18446744073709551616 ^ i)+18446744073709551616 ^ (i+k)*(V / 18446744073709551616 ^ (i+k)%18446744073709551616+x*bk):=by rw[Nat.mod_pow_succ,af8];grind
theorem EY (V x Bk bk i k:Nat):(V%18446744073709551616 ^ (i+k+1)+x*(Bk+18446744073709551616 ^ k*bk)*18446744073709551616 ^ i) / 18446744073709551616 ^ (i+k+1)=((V%18446744073709551616 ^ (i+k)+x*Bk*18446744073709551616 ^ i) / 18446744073709551616 ^ (i+k)+V / 18446744073709551616 ^ (i+k)%18446744073709551616+x*bk) / 18446744073709551616:=by rw[F7,af2,<- afX,agL _ _ (agZ (by decide)),agx]
theorem Dy (V x Bk bk i k R:Nat):(V+x*(Bk+18446744073709551616 ^ k*bk+18446744073709551616 ^ (k+1)*R)*18446744073709551616 ^ i) / 18446744073709551616 ^ (i+k)%18446744073709551616=((V%18446744073709551616 ^ (i+k)+x*Bk*18446744073709551616 ^ i) / 18446744073709551616 ^ (i+k)+V / 18446744073709551616 ^ (i+k)%18446744073709551616+x*bk)%18446744073709551616:=by
 have e:V+x*(Bk+18446744073709551616 ^ k*bk+18446744073709551616 ^ (k+1)*R)*18446744073709551616 ^ i=(V%18446744073709551616 ^ (i+k+1)+x*(Bk+18446744073709551616 ^ k*bk)*18446744073709551616 ^ i)+18446744073709551616 ^ (i+k+1)*(V / 18446744073709551616 ^ (i+k+1)+x*R):=by
  have h:=agJ V (18446744073709551616 ^ (i+k+1));have h2:18446744073709551616 ^ (i+k+1)=18446744073709551616 ^ (k+1)*18446744073709551616 ^ i:=by rw[<- af8]; congr 1; omega
  generalize V / 18446744073709551616 ^ (i+k+1)=q at *;generalize V%18446744073709551616 ^ (i+k+1)=r at *;rw[<- h,h2];grind
 rw[iS e,F7,agL _ _ (agZ (by decide)),agx]
theorem Kn {V x Bk i k:Nat} (hx:x<18446744073709551616) (hB:Bk<18446744073709551616 ^ k):(V%18446744073709551616 ^ (i+k)+x*Bk*18446744073709551616 ^ i) / 18446744073709551616 ^ (i+k)<18446744073709551616:=by
 rw[afY (agZ (by decide))];have h1:V%18446744073709551616 ^ (i+k)<18446744073709551616 ^ (i+k):=af4 _ (agZ (by decide));have h2:x*Bk<=18446744073709551615*18446744073709551616 ^ k:=agG (by omega) (by omega);have h3:x*Bk*18446744073709551616 ^ i<=18446744073709551615*18446744073709551616 ^ (i+k):=by
  have:=afT (18446744073709551616 ^ i) h2
  rwa [af0 18446744073709551615,<- af8,ahK k i]at this
 omega
theorem sy (S:Nat) {L i:Nat} (h:i<L):(dlq S L).getD i 0=((S / 18446744073709551616 ^ i%18446744073709551616:Nat):Int):=by
 induction L with
 | zero=>omega
 | succ L ih=>
  show((dlq S L)++[_]).getD i 0=_;rw[List.getD_eq_getElem?_getD];by_cases hi:i<L
  ·rw[List.getElem?_append_left (by rw[ak]; exact hi),<- List.getD_eq_getElem?_getD,ih hi]
  ·have:i=L:=by omega
   subst this;rw[List.getElem?_append_right (by rw[ak]; exact af1 _),ak,agq]; rfl
theorem pN {b:List Int} {k:Nat}:av (b.take (k+1))=av (b.take k)+18446744073709551616 ^ k*(b.getD k 0).toNat:=aM k
theorem yz (U V L p:Nat) (h:p<L):(dlq U p++(dlq V L).drop p).set p ((U / 18446744073709551616 ^ p%18446744073709551616:Nat):Int)=dlq U (p+1)++(dlq V L).drop (p+1):=by rw[cW (by rw[ak]; exact h),be _ _ _ _ _ (by rw[ak])];show _=(dlq U p++[_])++_;rw[af7]; rfl
theorem Fi (U V L p:Nat) (h:p<L):(dlq U p++(dlq V L).drop p).getD p 0=((V / 18446744073709551616 ^ p%18446744073709551616:Nat):Int):=by rw[cW (by rw[ak]; exact h),bT (by rw[ak]),sy V h]
theorem yy (U V L p:Nat) (h:p<=L):(dlq U p++(dlq V L).drop p).length=L:=by simp[ak]; omega
theorem Ht {U L p:Nat} (hU:U<18446744073709551616 ^ p) (h:p<=L) {V:Nat} (hV:V<18446744073709551616 ^ p):dlq U p++(dlq V L).drop p=dlq U L:=by
 induction L with
 | zero=>
  have:p=0:=by omega
  subst this; rfl
 | succ L ih=>
  by_cases hp:p=L+1
  ·subst hp; rw[agB (by rw[ak]; omega),agp]
  ·have hpL:p<=L:=by omega
   have e:∀ X,X<18446744073709551616 ^ p->dlq X (L+1)=dlq X L++[0]:=by intro X hX;show dlq X L++[((X / 18446744073709551616 ^ L%18446744073709551616:Nat):Int)]=_;rw[agm (af9 hX (af5 (by decide) hpL))]; rfl
   rw[e V hV,e U hU,agS (by rw[ak]; exact hpL),<- af7,ih hpL]
theorem sR {a:List Int} (ha:InWq a) (i:Nat):av (a.take i)<18446744073709551616 ^ i:=aR ha i
theorem sM {x y i j:Nat} (hx:x<18446744073709551616 ^ i) (hy:y<18446744073709551616 ^ j):x*y<18446744073709551616 ^ (i+j):=by rw[af8];exact ai3 hx hy
def lK (N:Nat) (l:List Int):Prop:=l.length+3<N/\l.length<=1099511627776
theorem A9 {N:Nat} (b:List Int) (hN:b.length<N) (hs:b.length<9223372036854775807) (k:Kz6):wW N b k=k (bM b b.length):=by
 (unfold wW; rw[ac]; unfold SV)
 have key:∀ n,n<=b.length -> ∀ M,n<M->ai M (vW N b λZV=>((decide (0<=ZV/\ZV<=(((List.length b):Nat):Int)))&&(k ((Int.toNat ZV) - 0)))) (n:Int)=k (bM b n):=by
  intro n;induction n with
  | zero=>
   intro _ M hM;cases M with
   | zero=>omega
   | succ M=>
    show vW N b _ ((0:Nat):Int) _=_;simp only[vW,bM];rw[afP (by omega:¬((0:Nat):Int)>0),show(false==true)=false from rfl,afQ,afO (by omega),agW];rfl
  | succ n ih=>
   intro hn M hM;cases M with
   | zero=>omega
   | succ M=>
    show vW N b _ ((n+1:Nat):Int) (ai M _)=_;have e:Int.toNat (((n+1:Nat):Int) - 1)=n:=by omega
    have e2:((n+1:Nat):Int) - 1=(n:Int):=by omega
    simp only[vW,e];rw[afO (by omega:((n+1:Nat):Int)>0),show(true==true)=true from rfl,afR,aa afM,aa afN,aa (afO (by omega)),aa afM,e2,ih (by omega) M (by omega),oG];by_cases h0:b.getD n 0=0
    ·have:(b.getD n 0==0)=true:=by simpa using h0
     rw[this,if_pos h0]; rfl
    ·have:(b.getD n 0==0)=false:=by simpa using h0
     rw[this,if_neg h0,afQ,afO (by omega),agW];rfl
 exact key b.length (af1 _) N hN
theorem kF {N:Nat} (b:List Int) (hb:InWq b) (hN:b.length<N) (hs:b.length<9223372036854775807) (k:Kz9) :
  (wW N b λl=>(decide (0+l<=b.length))&&k (List.take l (List.drop 0 b)))=k (ae (av b)):=by
 rw[A9 b hN hs,ahh,xd hb];have:=kf b b.length;rw[afO (by omega)]; rfl
theorem ui {N:Nat} (hN:1000<=N) (n:Nat) (hn:n<18446744073709551616) (k:Kz9):kc N (n:Int) k=k (ae n):=by
 unfold kc zV;have hw:InWq [(n:Int)]:=by intro x hx;simp only[ahc,ahS,or_false]at hx;subst hx; omega
 have hv:av [(n:Int)]=n:=by simp only[av]; omega
 have:=kF (N:=N) [(n:Int)] hw (by simp; omega) (by simp) k;rw[hv]at this;exact this
theorem xH {N:Nat} (l:List Int) (h:l.length<=1099511627776) (k:Kz9):rG N l k=k l:=by unfold rG RH;rw[agD,afO (by omega),agW]
theorem nB (N:Nat) (l:List Int) (i:Nat) (hi:i<9223372036854775807) (k:Kz5):yX N l (i:Int) k=k (l.getD i 0):=by
 unfold yX RO;by_cases h:i<l.length
 ·rw[afO (by omega:(i:Int)<((l.length:Nat):Int)),afR,aa afN,afV]
 ·rw[afP (by omega:¬(i:Int)<((l.length:Nat):Int)),afQ,dY (by omega)]
theorem nz (N:Nat) {x y c:Int} {a b d:Nat} (hx:x=(a:Int)) (hy:y=(b:Int)) (hz:c=(d:Int)) (hc:d<=1) (k:Ky5):sQ2 N x y c k=k (((a+b+d)%18446744073709551616:Nat):Int) (((a+b+d) / 18446744073709551616:Nat):Int):=by subst hx hy hz;show(decide (Int.toNat (d:Int)<=1)&&_)=_;rw[afV,afO hc]; rfl
theorem xE (N:Nat) {x y c:Int} {a b d:Nat} (hx:x=(a:Int)) (hy:y=(b:Int)) (hz:c=(d:Int)) (hc:d<=1) (k:Ky5):sQ4 N x y c k=k (((a+18446744073709551616 - b - d)%18446744073709551616:Nat):Int) (if a<b+d then 1 else 0):=by
 subst hx hy hz;show(decide (Int.toNat (d:Int)<=1)&&_)=_;rw[afV,afO hc];show k _ (cond (decide (a<b+d)) 1 0)=_;by_cases h:a<b+d
 ·rw[afO h,if_pos h]; rfl
 ·rw[afP h,if_neg h]; rfl
theorem Qr (a b:Nat):imm true (a:Int) (b:Int)=((max a b:Nat):Int):=by
 unfold imm; simp only[afR];by_cases h:(b:Int)>a
 ·rw[afO h,afR]; omega
 ·rw[afP h,afQ]; omega
theorem Ot {N:Nat} (a b:List Int) (ha:InWq a) (hb:InWq b) (hNa:lK N a) (hNb:lK N b) (k:Kz9):xT N a b k=k (ae (av a+av b)):=by
 (unfold xT; rw[ac]; unfold xg)
 obtain⟨a1,a2⟩:=hNa;obtain⟨b1,b2⟩:=hNb;rw[Qr]
 let L:=max a.length b.length
 have hLa:a.length<=L:=Nat.le_max_left _ _;have hLb:b.length<=L:=Nat.le_max_right _ _;have hLN:L+3<N:=by simp only[L]; omega
 have hLs:L<=1099511627776:=by simp only[L]; omega
 show(af .i64 ((L:Int)+1)&&_)=_;have eL:Int.toNat ((L:Int)+1)=L+1:=by omega
 rw[aa afM,aa (bE (by omega) (by omega) (by omega) (by omega)),eL]
 let S:=av a+av b
 let T:=λi=>av (a.take i)+av (b.take i)
 refine aH (λi=>(((T i / 18446744073709551616 ^ i:Nat):Int),(i:Int),dlq S i++List.replicate (L+1 - i) 0)) L (by simp[T,av,dlq]) (by omega) (λi hi K=>?_) (λK=>?_)
 ·have hx:=ha.at (i:=i);have hy:=hb.at (i:=i);have hT:T (i+1)=T i+18446744073709551616 ^ i*((a.getD i 0).toNat+(b.getD i 0).toNat):=by simp only[T,aM,af6]; omega
  have hq:T (i+1) / 18446744073709551616 ^ i=T i / 18446744073709551616 ^ i+((a.getD i 0).toNat+(b.getD i 0).toNat):=by rw[hT,cE]
  have hc:T i / 18446744073709551616 ^ i<=1:=by
   have h1:=aR ha i;have h2:=aR hb i;have h3:T i<18446744073709551616 ^ i*2:=by simp only[T]; omega
   have:=(afY (agZ (n:=i) (by decide:0<18446744073709551616))).2 (by rw[afS]; exact h3:T i<2*18446744073709551616 ^ i);omega
  have hdiv:T (i+1) / 18446744073709551616 ^ (i+1)=T (i+1) / 18446744073709551616 ^ i / 18446744073709551616:=by rw[af2,afX]
  have hdig:S / 18446744073709551616 ^ i%18446744073709551616=T (i+1) / 18446744073709551616 ^ i%18446744073709551616:=by obtain⟨R1,h1⟩:=bF a (i+1);obtain⟨R2,h2⟩:=bF b (i+1);refine iS (R:=R1+R2) ?_;simp only[S,T];rw[af6]; omega
  have hset:=ua S i (L+1) (by omega);have hlen:(dlq S i++List.replicate (L+1 - i) 0).length=L+1:=by simp[ak]; omega
  simp only[nv];rw[afO (by omega:(i:Int)<((max a.length b.length:Nat):Int)),afR,nB N a i (by omega),nB N b i (by omega),nz N (a:=(a.getD i 0).toNat) (b:=(b.getD i 0).toNat) (d:=T i / 18446744073709551616 ^ i) (by omega) (by omega) rfl hc,hlen,aa afN,aa (afO (by omega)),aa afM,afV];have e1:(a.getD i 0).toNat+(b.getD i 0).toNat+T i / 18446744073709551616 ^ i=T (i+1) / 18446744073709551616 ^ i:=by rw[hq]; omega
  rw[e1,<- hdig,<- hdiv,hset];rfl
 ·simp only[nv];rw[afP (by omega:¬(L:Int)<((max a.length b.length:Nat):Int)),afQ];have hT:T L=S:=by simp only[T,S]; rw[agb hLa,agb hLb]
  have hS:S<18446744073709551616 ^ (L+1):=by have h1:=aR ha L;have h2:=aR hb L;rw[agb hLa]at h1;rw[agb hLb]at h2;rw[af2];simp only[S]; omega
  have hlen:(dlq S L++List.replicate (L+1 - L) 0).length=L+1:=by simp[ak]
  have hcl:S / 18446744073709551616 ^ L<18446744073709551616:=by rw[afY (agZ (by decide)),afS,<- af2]; exact hS
  have e2:((T L / 18446744073709551616 ^ L:Nat):Int)=((S / 18446744073709551616 ^ L%18446744073709551616:Nat):Int):=by rw[hT,afZ hcl]
  have hset:=ua S L (L+1) (by omega);rw[e2,afV,hset,hlen,aa afN,aa (afO (by omega)),agq,agt,agp,
   kF _ (gM S _) (by rw[ak]; omega) (by rw[ak]; omega),mv hS]
theorem nA {N:Nat} (a b:List Int) (ha:InWq a) (hb:InWq b) (hle:av b<=av a) (hN:lK N a) (k:Kz9):yY N a b k=k (ae (av a - av b)):=by
 obtain⟨hN1,hN2⟩:=hN
 (unfold yY; rw[ac]; unfold MV)
 rw[aa (bE (by omega) (by omega) (by omega) (by omega)),afV]
 let D:=av a - av b
 let bo:=λi=>if av (a.take i)<av (b.take i)then(1:Nat)else 0
 refine aH (λi=>(((bo i:Nat):Int),(i:Int),dlq D i++List.replicate (a.length - i) 0)) a.length (by simp[bo,av,dlq]) (by omega) (λi hi K=>?_) (λK=>?_)
 ·have hx:=ha.at (i:=i);have hy:=hb.at (i:=i);have hA:=aM (m:=a) i;have hB:=aM (m:=b) i;have hAl:=aR ha i;have hBl:=aR hb i;have hset:=ua D i a.length (by omega);have hl:(dlq D i++List.replicate (a.length - i) 0).length=a.length:=by simp[ak]; omega
  obtain⟨R1,h1⟩:=bF a (i+1);obtain⟨R2,h2⟩:=bF b (i+1);have hD:(D:Int)=(av a:Int) - (av b:Int):=by simp only[D]; omega
  have hPs:18446744073709551616 ^ (i+1)=18446744073709551616 ^ i*18446744073709551616:=af2 ..;have hbo:bo i<=1:=by simp only[bo]; split <;> omega
  have hbs:bo (i+1)=if (a.getD i 0).toNat<(b.getD i 0).toNat+bo i then 1 else 0:=by simp only[bo,hA,hB];exact oD _ _ _ _ _ hAl hBl
  have hq:((D / 18446744073709551616 ^ i:Nat):Int)=((a.getD i 0).toNat:Int) - ((b.getD i 0).toNat:Int) - (bo i:Int)+18446744073709551616*((R1:Int) - (R2:Int)):=by rw[hA,hPs]at h1;rw[hB,hPs]at h2;exact CA hAl hBl rfl h1 h2 hD
  have hdig:((D / 18446744073709551616 ^ i%18446744073709551616:Nat):Int)=(((a.getD i 0).toNat:Int) - ((b.getD i 0).toNat:Int) - (bo i:Int))%18446744073709551616:=by rw[Int.natCast_emod,hq];exact Int.add_mul_emod_self_left _ _ _
  simp only[mi];rw[afO (by omega:(i:Int)<a.length),afR,aa afN,nB N b i (by omega),afV,xE N (a:=(a.getD i 0).toNat) (b:=(b.getD i 0).toNat) (d:=bo i) (by omega) (by omega) rfl hbo,hl,aa afN,aa (afO (by omega)),aa afM];have e1:(((((a.getD i 0).toNat+18446744073709551616 - (b.getD i 0).toNat - bo i)%18446744073709551616:Nat)):Int)=((D / 18446744073709551616 ^ i%18446744073709551616:Nat):Int):=by rw[hdig]; omega
  have e2:(if (a.getD i 0).toNat<(b.getD i 0).toNat+bo i then(1:Int)else 0)=((bo (i+1):Nat):Int):=by rw[hbs]; split <;> rfl
  rw[e1,e2,hset];rfl
 ·simp only[mi];rw[afP (by omega:¬(a.length:Int)<a.length),afQ,agq,agt,agp];have hS:D<18446744073709551616 ^ a.length:=by have:=iM ha; simp only[D]; omega
  rw[kF _ (gM D _) (by rw[ak]; omega) (by rw[ak]; omega),mv hS]
theorem B9 {N:Nat} (a b:List Int) (ha:InWq a) (hb:InWq b) (hl:a.length=b.length) (hs:a.length<9223372036854775807) (k:Kz5) :
  ∀ n,n<=a.length -> ∀ M,n<M->ai M (vT N a b (λt4=>k t4) (k 0)) ((n:Int) - 1)=k (dx (av (a.take n)) (av (b.take n))):=by
 intro n;induction n with
 | zero=>
  intro _ M hM;cases M with
  | zero=>omega
  | succ M=>
   show vT N a b _ _ ((0:Nat) - 1:Int) _=_;simp[vT,dx,av]
 | succ n ih=>
  intro hn M hM;cases M with
  | zero=>omega
  | succ M=>
   show vT N a b _ _ (((n+1:Nat):Int) - 1) (ai M _)=_;have e:(((n+1:Nat):Int) - 1)=(n:Int):=by omega
   have hx:=ha.at (i:=n);have hy:=hb.at (i:=n);have hA:=aM (m:=a) n;have hB:=aM (m:=b) n;have hAl:=aR ha n;have hBl:=aR hb n;rw[e];simp only[vT,afV];rw[hA,hB,afO (by omega:(n:Int)>=0),afR,aa afN,aa afN,aa afN,aa afN,aa afM,ih (by omega) M (by omega)];by_cases h0:a.getD n 0=b.getD n 0
   ·rw[show(a.getD n 0 != b.getD n 0)=false by simpa using h0,afQ,h0,E3]
   ·rw[show(a.getD n 0 != b.getD n 0)=true by simpa using h0,afR];by_cases h1:a.getD n 0<b.getD n 0
    ·rw[afO h1,afR,NA hAl (by omega)]
    ·rw[afP h1,afQ,Nz hBl (by omega)]
theorem iV {N:Nat} (x y:Nat) (hx:lK N (ae x)) (hy:lK N (ae y)) (k:Kz5):Dd N (ae x) (ae y) k=k (dx x y):=by
 (unfold Dd; rw[ac]; unfold Mt)
 obtain⟨x1,x2⟩:=hx;obtain⟨y1,y2⟩:=hy;by_cases h:(ae x).length=(ae y).length
 ·have e:(((ae x).length:Int) != (ae y).length)=false:=by rw[h]; simp
  rw[e,afQ,aa afM,B9 (ae x) (ae y) (aX x) (aX y) h (by omega) k _ (af1 _) N (by omega),agy,h,agy,aC,aC]
 ·have e:(((ae x).length:Int) != (ae y).length)=true:=by simp; omega
  rw[e,afR];by_cases h1:(ae x).length<(ae y).length
  ·rw[afO (by omega),afR];have:x<y:=by
    rcases agP x y with h2 | h2
    ·exact h2
    ·have:=dc h2; omega
   unfold dx; rw[if_pos this]
  ·rw[afP (by omega),afQ];have:¬ x<=y:=λh2=>by have:=dc h2; omega
   unfold dx; rw[if_neg (by omega),if_neg (by omega)]
def sG (z:Int) (k:Ky4):Bool:=k (decide (z<0)) (ae z.natAbs)
theorem pw (n:Nat):decide (((ae n).length:Int)>0)=decide (n ≠ 0):=by
 by_cases h:n=0
 ·subst h; rw[bg]; simp
 ·rw[bN h,ags,afO (by omega),afO h]
theorem Gj (g:Bool) (n:Nat) (k:Ky4):k (sg g n) (ae n)=sG (aY g n) k:=by
 unfold sG aY sg;cases g
 ·simp only[agR,ago,air,agK];rw[afP (by omega)]
 ·simp only[ahr,agW,ais,agK];congr 1;by_cases h:n=0
  ·subst h; rfl
  ·rw[afO h,afO (by omega)]
theorem OQ (g:Bool) (n:Nat) (k:Ky4):cond (g==true) (k (decide (((ae n).length:Int)>0)) (ae n)) (k false (ae n))=sG (aY g n) k:=by rw[pw,<- Gj];cases g <;> rfl
theorem HY {N:Nat} (g b:Bool) (n:Nat) (k:Ky4):Ee N g (ae n) b (λcr=>k cr (ae n))=sG (aY g n) k:=OQ g n k
theorem ob {N:Nat} (g b:Bool) (l:List Int) (n:Nat) (k:Ky4):LM N g (ae n) b l (λcr=>k cr (ae n))=sG (aY g n) k:=OQ g n k
theorem IE (g1 g2:Bool) (n1 n2:Nat) (k:Ky4) :
  cond (g1==g2) (sG (aY g2 (n1+n2)) k) (cond (decide (dx n1 n2>=0)) (sG (aY g1 (n1 - n2)) k) (sG (aY g2 (n2 - n1)) k))=sG (aY g1 n1+aY g2 n2) k:=by
 rw[tY];have key:∀ a b:Int,a=b->sG a k=sG b k:=λa b h=>by rw[h]
 cases g1 <;> cases g2 <;> simp only[aY] <;> by_cases h:n2<=n1 <;> simp only[h,aiW,aiP,afR,afQ,ahz,agR,ahr,ago,(by decide:(false==true)=false),(by decide:(true==false)=false)] <;> refine key _ _ ?_ <;> omega
theorem EO (n:Nat):aB .and .u64 (n:Int) 4294967295=((n%4294967296:Nat):Int):=by
 have h:=kw n 32 (by decide);have e1:((2 ^ 32 - 1:Nat):Int)=4294967295:=by decide
 have e2:(2:Nat) ^ 32=4294967296:=by decide
 rw[e1,e2]at h;exact h
theorem Vt (p00 p10 p01 p11:Nat):(p11*18446744073709551616+(p10+p01)*4294967296+p00) / 18446744073709551616=p11+(p10+p00 / 4294967296) / 4294967296+((p10+p00 / 4294967296)%4294967296+p01) / 4294967296:=by omega
theorem Lr (x y:Nat):x*y=(x / 4294967296)*(y / 4294967296)*18446744073709551616+((x / 4294967296)*(y%4294967296)+(x%4294967296)*(y / 4294967296))*4294967296+(x%4294967296)*(y%4294967296):=by have hx:=agJ x 4294967296;have hy:=agJ y 4294967296;generalize x / 4294967296=a at *;generalize x%4294967296=b at *;generalize y / 4294967296=c at *;generalize y%4294967296=d at *;subst hx hy;grind
theorem xD (N:Nat) {x y:Nat} (hx:x<18446744073709551616) (hy:y<18446744073709551616) (k:Ky5):Gn N (x:Int) (y:Int) k=k ((x*y / 18446744073709551616:Nat):Int) ((x*y%18446744073709551616:Nat):Int):=by
 (unfold Gn; rw[ac]; unfold Mn)
 have fx:Int.fdiv (x:Int) (2 ^ 32)=((x / 4294967296:Nat):Int):=by rw[kz]; rfl
 have fy:Int.fdiv (y:Int) (2 ^ 32)=((y / 4294967296:Nat):Int):=by rw[kz]; rfl
 rw[EO,EO,fx,fy];have hs:=Lr x y;have b0:x / 4294967296<=4294967295:=by omega
 have b1:x%4294967296<=4294967295:=by omega
 have b2:y / 4294967296<=4294967295:=by omega
 have b3:y%4294967296<=4294967295:=by omega
 have m00:=agG b1 b3;have m10:=agG b0 b3;have m01:=agG b1 b2;have m11:=agG b0 b2;have hh:=Vt ((x%4294967296)*(y%4294967296)) ((x / 4294967296)*(y%4294967296)) ((x%4294967296)*(y / 4294967296)) ((x / 4294967296)*(y / 4294967296));rw[<- hs]at hh;rw[<- aga,<- aga,<- aga,<- aga,<- aga];have hlt:x*y<=18446744073709551615*18446744073709551615:=agG (by omega) (by omega);generalize x*y=P at *;generalize (x%4294967296)*(y%4294967296)=p00 at *;generalize (x / 4294967296)*(y%4294967296)=p10 at *;generalize (x%4294967296)*(y / 4294967296)=p01 at *;generalize (x / 4294967296)*(y / 4294967296)=p11 at *;have t1:IntKind.wrap .u64 (IntKind.wrap .u64 (p10:Int)+Int.fdiv (IntKind.wrap .u64 (p00:Int)) (2 ^ 32))=((p10+p00 / 4294967296:Nat):Int):=by simp only[am,kz]; omega
 rw[t1,EO];congr 1
 ·rw[hh];simp only[am,kz];omega
theorem A8 (N:Nat) {x y c d:Int} {a b e f:Nat} (hx:x=(a:Int)) (hy:y=(b:Int)) (hc:c=(e:Int)) (hd:d=(f:Int)) (ha:a<18446744073709551616) (hb:b<18446744073709551616) (he:e<18446744073709551616) (hf:f<18446744073709551616) (k:Ky5) :
  lV N x y c d k=k (((a*b+e+f) / 18446744073709551616:Nat):Int) (((a*b+e+f)%18446744073709551616:Nat):Int):=by
 subst hx hy hc hd
 (unfold lV; rw[ac]; unfold uU)
 have hlt:a*b<=18446744073709551615*18446744073709551615:=agG (by omega) (by omega);rw[xD N ha hb];generalize a*b=P at *;rw[nz N (c:=0) (a:=P%18446744073709551616) (b:=e) (d:=0) rfl rfl rfl (by omega),nz N (c:=0) (a:=(P%18446744073709551616+e+0)%18446744073709551616) (b:=f) (d:=0) rfl rfl rfl (by omega)];congr 1
 ·simp only[am]; omega
 ·omega
theorem HT {N:Nat} (a b:List Int) (ha:InWq a) (hb:InWq b) (hN:a.length+b.length+2<N) (hs:a.length+b.length<=1099511627776) (k:Kz9):zu N a b k=k (ae (av a*av b)):=by
  (unfold zu; rw[ac]; unfold Tj)
  by_cases a0:a.length=0
  · have:a=[]:=List.length_eq_zero_iff.1 a0
    subst this;show k []=k (ae (0*av b));rw[ahe,bg]
  by_cases b0:b.length=0
  · have:b=[]:=List.length_eq_zero_iff.1 b0
    subst this;have e:(((a.length:Nat):Int)==0)=false:=by simp; intro h; subst h; simp at a0
    rw[e,show(false==false)=true from rfl,afR];show k []=k (ae (av a*0));rw[ahb,bg]
  have e0:(((a.length:Nat):Int)==0)=false:=by simp; intro h; subst h; simp at a0
  have e1:(((b.length:Nat):Int)==0)=false:=by simp; intro h; subst h; simp at b0
  rw[e0,e1,show(false==false)=true from rfl,afR,afQ];have eL:Int.toNat (((a.length:Nat):Int)+((b.length:Nat):Int))=a.length+b.length:=by omega
  rw[aa afM,aa (bE (by omega) (by omega) (by omega) (by omega)),eL]
  let L:=a.length+b.length
  let B:=av b
  have hB:B<18446744073709551616 ^ b.length:=iM hb;refine aH (λi=>((i:Int),dlq (av (a.take i)*B) L)) a.length ?_ (by omega) (λi hi K=>?_) (λK=>?_)
  · show((0:Int),List.replicate L (0:Int))=(((0:Nat):Int),dlq (av (a.take 0)*B) L)
    have:=sA L 0;rw[ahb]at this;rw[ah8,show av []=0 from rfl,ahe,this]; rfl
  · simp only[k9]
    rw[afO (by omega:(i:Int)<a.length),afR,aa afN,afV];have hx:=ha.at (i:=i)
    let V:=av (a.take i)*B
    let x:=(a.getD i 0).toNat
    let U:=av (a.take (i+1))*B
    have hU:U=V+x*B*18446744073709551616 ^ i:=by simp only[U,V,x];rw[pN];grind
    have hV:V<18446744073709551616 ^ (i+b.length):=sM (sR ha i) hB;have hUl:U<18446744073709551616 ^ (i+1+b.length):=sM (sR ha (i+1)) hB
    let c:=λj=>(V%18446744073709551616 ^ (i+j)+x*av (b.take j)*18446744073709551616 ^ i) / 18446744073709551616 ^ (i+j)
    refine aH (λj=>(((c j:Nat):Int),(j:Int),dlq U (i+j)++(dlq V L).drop (i+j))) b.length ?_ (by omega) (λj hj K'=>?_) (λK'=>?_)
    · show((0:Int),(0:Int),dlq V L)=_
      have h0:c 0=0:=by simp only[c,ah8,show av []=0 from rfl,ahb,ahe,agn];exact agm (af4 _ (agZ (by decide)))
      have hlow:dlq U i=dlq V i:=by
        have:∀ n,n<=i->dlq U n=dlq V n:=by
          intro n;induction n with
          | zero=>intro _; rfl
          | succ n ih=>
            intro hn;show dlq U n++[_]=dlq V n++[_];rw[ih (by omega)];congr 3;have:U=V+18446744073709551616 ^ (n+1)*(x*B*18446744073709551616 ^ (i - (n+1))):=by rw[hU,agi,<- af8,show n+1+(i - (n+1))=i by omega]
            exact iS this
        exact this i (af1 _)
      have hsp:dlq V i++(dlq V L).drop i=dlq V L:=by
        have:∀ n,i<=n->dlq V i++(dlq V n).drop i=dlq V n:=by
          intro n;induction n with
          | zero=>intro h; have:i=0:=(by omega); subst this; rfl
          | succ n ih=>
            intro h;by_cases hn:i=n+1
            · subst hn; rw[agB (by rw[ak]; omega),agp]
            · show dlq V i++(dlq V n++[_]).drop i=dlq V n++[_]
              rw[agS (by rw[ak]; omega),<- af7,ih (by omega)]
        exact this L (by simp only[L]; omega)
      rw[h0,agn,hlow,hsp]; rfl
    · have hy:=hb.at (i:=j)
      have hp:i+j<L:=by simp only[L]; omega
      have hlen:=yy U V L (i+j) (by omega);have hget:=Fi U V L (i+j) hp;have hset:=yz U V L (i+j) hp;have hc:=Kn (V:=V) (x:=x) (i:=i) (k:=j) (Bk:=av (b.take j)) (by simp only[x]; omega) (sR hb j);have hstep:=EY V x (av (b.take j)) (b.getD j 0).toNat i j;obtain⟨R,hR⟩:=bF b (j+1);have hdig:=Dy V x (av (b.take j)) (b.getD j 0).toNat i j R;rw[<- pN]at hstep hdig;rw[<- hR]at hdig;have hUe:V+x*av b*18446744073709551616 ^ i=U:=hU.symm;rw[hUe]at hdig;have hxy:x*(b.getD j 0).toNat<=18446744073709551615*18446744073709551615:=agG (by simp only[x]; omega) (by omega);have eidx:Int.toNat ((i:Int)+(j:Int))=i+j:=by omega
      have hcj:∀ n,c n=(V%18446744073709551616 ^ (i+n)+x*av (b.take n)*18446744073709551616 ^ i) / 18446744073709551616 ^ (i+n):=λ_=>rfl
      have hax:a.getD i 0=(x:Int):=by simp only[x]; omega
      have hby:b.getD j 0=((b.getD j 0).toNat:Int):=by omega
      have ec1:c (j+1)=(c j+V / 18446744073709551616 ^ (i+j)%18446744073709551616+x*(b.getD j 0).toNat) / 18446744073709551616:=hstep;have ed:U / 18446744073709551616 ^ (i+j)%18446744073709551616=(c j+V / 18446744073709551616 ^ (i+j)%18446744073709551616+x*(b.getD j 0).toNat)%18446744073709551616:=hdig;have hcl:c j<18446744073709551616:=hc;rw[ed]at hset;have vlt:V / 18446744073709551616 ^ (i+j)%18446744073709551616<18446744073709551616:=af4 _ (by decide);have hxl:x<18446744073709551616:=by simp only[x]; omega
      have hyl:(b.getD j 0).toNat<18446744073709551616:=by omega
      simp only[lc,afV,eidx,hlen];rw[afO (by omega:(j:Int)<((b.length:Nat):Int)),afR,aa afN,aa afM,aa afM,aa afN,aa (afO (by omega)),A8 N hax hby hget rfl hxl hyl vlt hcl,aa afN,aa (afO (by omega)),aa afM];rw[show i+(j+1)=i+j+1 by omega,<- hset];have ez:x*(b.getD j 0).toNat+V / 18446744073709551616 ^ (i+j)%18446744073709551616+c j=c j+V / 18446744073709551616 ^ (i+j)%18446744073709551616+x*(b.getD j 0).toNat:=by omega
      rw[ez,ec1];rfl
    · simp only[lc]
      rw[afP (by omega:¬(b.length:Int)<b.length),afQ];have hlen:=yy U V L (i+b.length) (by simp only[L]; omega);have hset:=yz U V L (i+b.length) (by simp only[L]; omega);have eidx:Int.toNat ((i:Int)+(b.length:Int))=i+b.length:=by omega
      have hLe:i+b.length<L:=by simp only[L]; omega
      have hc:c b.length=U / 18446744073709551616 ^ (i+b.length):=by simp only[c];rw[agy,afZ hV,hU]
      have hcl:U / 18446744073709551616 ^ (i+b.length)<18446744073709551616:=by
        rw[afY (agZ (by decide))];have:i+1+b.length=i+b.length+1:=by omega
        rw[this,af2]at hUl;omega
      have ew:((c b.length:Nat):Int)=((U / 18446744073709551616 ^ (i+b.length)%18446744073709551616:Nat):Int):=by rw[hc,afZ hcl]
      have hfin:=Ht (U:=U) (V:=V) (L:=L) (p:=i+b.length+1) (by rw[show i+b.length+1=i+1+b.length by omega]; exact hUl) (by omega) (af9 hV (af5 (by decide) (by omega)));rw[aa afM,eidx,hlen,aa afN,aa (afO (by omega)),aa afM,ew,hset,hfin];rfl
  · simp only[k9]
    rw[afP (by omega:¬(a.length:Int)<a.length),afQ,agy,kF _ (gM _ _) (by rw[ak]; simp only[L]; omega) (by rw[ak]; simp only[L]; omega)];rw[mv (sM (iM ha) hB)]
theorem Ea (n:Nat):2 ^ n=18446744073709551616 ^ (n / 64)*2 ^ (n%64):=by
 have e:(18446744073709551616:Nat)=2 ^ 64:=by decide
 rw[e,<- aiI,<- af8];congr 1; omega
theorem ba (i:Nat):0<18446744073709551616 ^ i:=agZ (by decide)
theorem KZ {N:Nat} (m:List Int) (hm:InWq m) (n:Nat) (hn:n<4294967296) (hN:m.length+n / 64+4<N) (hs:m.length<=1099511627776) (k:Kz9):vM N m n k=k (ae (av m*2 ^ n)):=by
 (unfold vM; rw[ac]; unfold uV)
 by_cases h0:m.length=0
 ·have:m=[]:=List.length_eq_zero_iff.1 h0;subst this;show k []=k (ae (0*2 ^ n));rw[ahe,bg]
 ·have e0:((m.length:Int)==0)=false:=by simp; intro h; subst h; simp at h0
  have ew:IntKind.wrap .u64 (Int.tdiv (n:Int) 64)=((n / 64:Nat):Int):=by rw[am,agU (by omega)]; omega
  have es:Int.tmod (n:Int) 64=((n%64:Nat):Int):=by rw[agI (by omega)]; rfl
  rw[e0,afQ,ew,es];have hw6:n / 64<67108864:=by omega
  generalize hw:n / 64=w at *;generalize hsh:n%64=s at *;have hs32:s<64:=by omega
  have hp2:2 ^ n=18446744073709551616 ^ w*2 ^ s:=by rw[Ea,hw,hsh]
  have hs0:0<2 ^ s:=af3 s;have hs1:2 ^ s*2 ^ (64 - s)=18446744073709551616:=by rw[<- af8,show s+(64 - s)=64 by omega]
  have elen:Int.toNat (((w:Nat):Int)+(m.length:Int)+1)=w+m.length+1:=by omega
  rw[aa afM,aa afM,aa afM,aa (bE (by omega) (by omega) (by omega) (by omega)),elen]
  let V:=av m*2 ^ n
  let X:=av m*2 ^ s
  have hVX:V=18446744073709551616 ^ w*X:=by simp only[V,X]; rw[hp2,agi]
  let T:=λi=>av (m.take i)*2 ^ s
  let c:=λi=>T i / 18446744073709551616 ^ i
  have hcl:∀ i,c i<2 ^ s:=by intro i;simp only[c,T];rw[afY (ba i),afS];exact ag0 (aR hm i) hs0
  refine aH (λi=>((i:Int),dlq V (w+i)++((c i:Nat):Int)::List.replicate (m.length - i) 0)) m.length ?_ (by omega) (λi hi K=>?_) (λK=>?_)
  ·congr 1;show List.replicate (w+m.length+1) (0:Int)=dlq V w++((c 0:Nat):Int)::List.replicate m.length 0;rw[hVX,sA];have hc0:c 0=0:=by simp[c,T,av]
   rw[hc0];have:w+m.length+1=w+(m.length+1):=by omega
   rw[this,<- ahu,agA]; rfl
  ·have hx:=hm.at (i:=i);have hT:T (i+1)=T i+18446744073709551616 ^ i*((m.getD i 0).toNat*2 ^ s):=by simp only[T,aM,agk,af0]
   have hq:T (i+1) / 18446744073709551616 ^ i=c i+(m.getD i 0).toNat*2 ^ s:=by rw[hT,cE]
   have hci:c i<2 ^ s:=hcl i;have hc1:c (i+1)=(c i+(m.getD i 0).toNat*2 ^ s) / 18446744073709551616:=by rw[<- hq]; simp only[c]; rw[af2,afX]
   have hdig:V / 18446744073709551616 ^ (w+i)%18446744073709551616=(c i+(m.getD i 0).toNat*2 ^ s)%18446744073709551616:=by rw[<- hq,hVX,af8,<- afX,agr _ (ba w)];obtain⟨R,hR⟩:=bF m (i+1);refine iS (R:=R*2 ^ s) ?_;simp only[X,T];rw[hR,agk,af0]
   have hrep:List.replicate (m.length - i) (0:Int)=0::List.replicate (m.length - (i+1)) 0:=by rw[show m.length - i=(m.length - (i+1))+1 by omega,agA]
   have hdl:=ak V (w+i);have ei:Int.toNat ((w:Int)+(i:Int))=w+i:=by omega
   have ei1:Int.toNat ((w:Int)+(i:Int)+1)=w+i+1:=by omega
   have emin:min s 64=s:=by omega
   have e64:min (Int.toNat (IntKind.wrap .u64 (64 - (s:Int)))) 64=64 - s:=by rw[am]; omega
   simp only[eD,afV,ei,ei1,emin,e64];rw[hrep,bT hdl.symm,be _ _ _ _ _ hdl.symm];have hmx:m.getD i 0=(((m.getD i 0).toNat:Nat):Int):=by omega
   rw[hmx];generalize hxx:(m.getD i 0).toNat=x at *;have hx32:x<18446744073709551616:=by omega
   have hlow:x*2 ^ s%18446744073709551616=2 ^ s*(x%2 ^ (64 - s)):=by
    have e:x*2 ^ s%(2 ^ s*2 ^ (64 - s))=2 ^ s*(x%2 ^ (64 - s)):=by rw[afS x]; exact ahB _ _ _
    rwa [hs1]at e
   have hsum:2 ^ s*(x%2 ^ (64 - s))+c i<18446744073709551616:=by have h1:x%2 ^ (64 - s)+1<=2 ^ (64 - s):=af4 _ (af3 _);have h2:=afW (2 ^ s) h1;rw[hs1,af6]at h2;omega
   have epw:(x:Int)*2 ^ s=((x*2 ^ s:Nat):Int):=by rw[aga,ahg]; rfl
   have eor:aB .or .u64 ((c i:Nat):Int) (IntKind.wrap .u64 ((x:Int)*2 ^ s))=((V / 18446744073709551616 ^ (w+i)%18446744073709551616:Nat):Int):=by
    have e1:IntKind.wrap .u64 ((x*2 ^ s:Nat):Int)=((2 ^ s*(x%2 ^ (64 - s)):Nat):Int):=by rw[<- hlow,am]; omega
    rw[epw,e1,co _ _ s hci hsum,hdig];omega
   have ehi:Int.fdiv (x:Int) (2 ^ (64 - s))=((c (i+1):Nat):Int):=by
    have e2:(2:Int) ^ (64 - s)=((2 ^ (64 - s):Nat):Int):=by rw[ahg]; rfl
    rw[e2,kH,hc1];have:(c i+x*2 ^ s) / 18446744073709551616=x / 2 ^ (64 - s):=by rw[<- hs1,<- afX,afS x,agL _ _ hs0,agm hci,agl]
    rw[this]
   rw[eor,ehi];have hl1:∀(a b:Int) (ys:List Int),(dlq V (w+i)++a::b::ys).length=w+i+2+ys.length:=by intro a b ys; simp[hdl]; omega
   have hset2:(dlq V (w+i)++((V / 18446744073709551616 ^ (w+i)%18446744073709551616:Nat):Int)::0::List.replicate (m.length - (i+1)) 0).set (w+i+1) ((c (i+1):Nat):Int)=dlq V (w+(i+1))++((c (i+1):Nat):Int)::List.replicate (m.length - (i+1)) 0:=by
    have:dlq V (w+i)++((V / 18446744073709551616 ^ (w+i)%18446744073709551616:Nat):Int)::0::List.replicate (m.length - (i+1)) 0=dlq V (w+(i+1))++0::List.replicate (m.length - (i+1)) 0:=by rw[<- agx,dlq]; simp
    rw[this];exact be _ _ _ _ _ (by rw[ak]; omega)
   rw[hset2,hl1,hl1];simp only[aha];rw[afO (by omega:(i:Int)<((m.length:Nat):Int)),afR,aa afN,aa afM,aa afN,aa (afO (by omega)),aa (afO (by omega)),aa afN,aa (afO (by omega)),aa afM,aa afM,aa (afO (by rw[am]; omega)),aa afN,aa (afO (by omega)),aa afM];rfl
  ·simp only[eD];rw[afP (by omega:¬(m.length:Int)<m.length),afQ,agq,agt];have hV:V<18446744073709551616 ^ (w+m.length+1):=by
    have h1:=iM hm;simp only[V];rw[hp2,af2,af8,agi,af0];refine ag0 ?_ (ba w);have hs2:2 ^ s<=18446744073709551616:=by rw[<- hs1]; exact agN _ (af3 _)
    exact agz h1 hs2 (by decide)
   have hT:T m.length=X:=by simp only[T,X]; rw[agy]
   have hend:dlq V (w+m.length)++[((c m.length:Nat):Int)]=dlq V (w+m.length+1):=by
    rw[dlq];have:c m.length=V / 18446744073709551616 ^ (w+m.length)%18446744073709551616:=by
     have hX:V / 18446744073709551616 ^ (w+m.length)=X / 18446744073709551616 ^ m.length:=by rw[hVX,af8,<- afX,agr _ (ba w)]
     have h2:=hcl m.length;have hs2:2 ^ s<=18446744073709551616:=by rw[<- hs1]; exact agN _ (af3 _)
     rw[hX,<- hT];exact(afZ (by show c m.length<_; omega)).symm
    rw[this]
   rw[hend,kF _ (gM V _) (by rw[ak]; omega) (by rw[ak]; omega),mv hV]
theorem nR:∀(i V:Nat),(ae V).getD i 0=((V / 18446744073709551616 ^ i%18446744073709551616:Nat):Int)
 | i,V=>by
  by_cases h:V=0
  ·subst h; rw[bg]; simp
  ·rw[bN h];cases i with
   | zero=>simp
   | succ i=>
    show(ae (V / 18446744073709551616)).getD i 0=_;rw[nR i (V / 18446744073709551616),af2,afS,<- afX]
theorem uc {l:List Int} {n i:Nat} (h:i<n):(l.take n).getD i 0=l.getD i 0:=by rw[List.getD_eq_getElem?_getD,List.getD_eq_getElem?_getD,List.getElem?_take,if_pos h]
theorem Aq {m:List Int} (hm:InWq m) (j:Nat):∃ R,av m / 18446744073709551616 ^ j=(m.getD j 0).toNat+18446744073709551616*(m.getD (j+1) 0).toNat+18446744073709551616*18446744073709551616*R:=by
 obtain⟨R,hR⟩:=bF m (j+2);refine⟨R,?_⟩;rw[hR,aM,aM];simp only[af2];have e:av (m.take j)+18446744073709551616 ^ j*(m.getD j 0).toNat+18446744073709551616 ^ j*18446744073709551616*(m.getD (j+1) 0).toNat+18446744073709551616 ^ j*18446744073709551616*18446744073709551616*R
   = av (m.take j)+18446744073709551616 ^ j*((m.getD j 0).toNat+18446744073709551616*(m.getD (j+1) 0).toNat+18446744073709551616*18446744073709551616*R):=by
  rw[af6,af6,af0,af0,af0,af0]; omega
 rw[e,cE,agm (aR hm j),agl]
theorem Dm {x y s:Nat} (hs:s<64) (hx:x<18446744073709551616) (hy:y<18446744073709551616):aB .or .u64 (Int.fdiv (x:Int) (2 ^ s)) (IntKind.wrap .u64 ((y:Int)*2 ^ (64 - s)))=(((x+18446744073709551616*y) / 2 ^ s%18446744073709551616:Nat):Int):=by
 have hs0:0<2 ^ s:=af3 s;have hs1:2 ^ s*2 ^ (64 - s)=18446744073709551616:=by rw[<- af8,show s+(64 - s)=64 by omega]
 have e1:Int.fdiv (x:Int) (2 ^ s)=((x / 2 ^ s:Nat):Int):=by
  have e2:(2:Int) ^ s=((2 ^ s:Nat):Int):=by rw[ahg]; rfl
  rw[e2,kH]
 have e3:(y:Int)*2 ^ (64 - s)=((y*2 ^ (64 - s):Nat):Int):=by rw[aga,ahg]; rfl
 have hlow:y*2 ^ (64 - s)%18446744073709551616=2 ^ (64 - s)*(y%2 ^ s):=by
  have e:2 ^ (64 - s)*y%(2 ^ (64 - s)*2 ^ s)=2 ^ (64 - s)*(y%2 ^ s):=ahB _ _ _
  rwa [afS (2 ^ (64 - s)) (2 ^ s),hs1,afS (2 ^ (64 - s)) y]at e
 have e4:IntKind.wrap .u64 ((y*2 ^ (64 - s):Nat):Int)=((2 ^ (64 - s)*(y%2 ^ s):Nat):Int):=by rw[<- hlow,am]; omega
 have hxl:x / 2 ^ s<2 ^ (64 - s):=by rw[afY hs0,afS,hs1]; exact hx
 have hsum:2 ^ (64 - s)*(y%2 ^ s)+x / 2 ^ s<18446744073709551616:=by have h1:y%2 ^ s+1<=2 ^ s:=af4 _ hs0;have h2:=afW (2 ^ (64 - s)) h1;rw[afS (2 ^ (64 - s)) (2 ^ s),hs1,af6]at h2;omega
 rw[e1,e3,e4,co _ _ (64 - s) hxl hsum];congr 1;have e5:(x+18446744073709551616*y) / 2 ^ s=x / 2 ^ s+2 ^ (64 - s)*y:=by rw[<- hs1,af0,agL _ _ hs0]
 rw[e5];have e6:y=y%2 ^ s+2 ^ s*(y / 2 ^ s):=(ah0 _ _).symm;have e7:2 ^ (64 - s)*y=2 ^ (64 - s)*(y%2 ^ s)+18446744073709551616*(y / 2 ^ s):=by
  conv=>lhs; rw[e6]
  rw[af6,<- af0,afS (2 ^ (64 - s)) (2 ^ s),hs1]
 rw[e7,<- agx,ag7,afZ (a:=x / 2 ^ s+2 ^ (64 - s)*(y%2 ^ s)) (b:=18446744073709551616) (by rw[ahK]; exact hsum)];exact ahK _ _
theorem Bl:∀ n:Nat,n ≠ 0 -> ∃ t c,n=2 ^ t*(2*c+1):=by
 intro n;induction n using Nat.strongRecOn with
 | ind n ih=>
  intro h0;by_cases h:n%2=0
  ·obtain⟨t,c,hc⟩:=ih (n / 2) (by omega) (by omega);exact⟨t+1,c,by rw[af2,afS (2 ^ t) 2,af0,<- hc]; omega⟩
  ·exact⟨0,n / 2,by rw[ahL,ahQ]; omega⟩
theorem uE {a b:Nat} (ha:a<18446744073709551616) (hb:b<18446744073709551616):aB .and .u64 (a:Int) (b:Int)=((a &&& b:Nat):Int):=by
 unfold aB rn;simp only[agC];have h64:(2:Nat) ^ 64=18446744073709551616:=by decide
 have e:((BitVec.ofInt (IntKind.bits .u64) (a:Int)) &&& (BitVec.ofInt (IntKind.bits .u64) (b:Int))).toNat=a &&& b:=by show((BitVec.ofInt 64 (a:Int)) &&& (BitVec.ofInt 64 (b:Int))).toNat=_;rw[aiy,agY,agY,ag5,ag5,afZ (by omega),afZ (by omega)]
 have hl:a &&& b<18446744073709551616:=ahn Nat.and_le_left ha;rw[e,xe _ hl]
theorem P3 {t c:Nat} (h:2 ^ t*(2*c+1)<2 ^ 64):(2 ^ t*(2*c+1)) &&& (2 ^ 64 - 2 ^ t*(2*c+1))=2 ^ t:=by
 have ht0:0<2 ^ t:=af3 t;have ht:t<64:=by
  rcases agP t 64 with h1 | h1
  ·exact h1
  ·have h2:2 ^ 64<=2 ^ t:=af5 (by decide) h1;have h3:2 ^ t*1<=2 ^ t*(2*c+1):=afW _ (by omega);omega
 have e1:2 ^ t*(2*c+1)=(2 ^ t*(2*c)+(2 ^ t - 1))+1:=by rw[af6]; omega
 refine ah5 λj=>?_
 rw[aiK];have e2:(2 ^ 64 - 2 ^ t*(2*c+1)).testBit j=(decide (j<64) && !(2 ^ t*(2*c)+(2 ^ t - 1)).testBit j):=by
  conv=>lhs; rw[e1]
  exact aiD (by rw[e1]at h; omega) j
 rw[e2,Nat.testBit_two_pow_mul,aiL _ (by omega),ahH];rcases aip j t with hj | hj | hj
 ·rw[afP (by omega:¬ j>=t),afP (by omega:¬ t=j)]; rfl
 ·subst hj;rw[if_neg (by omega),agq,afO (af1 _),afO ht,afO rfl];have a1:(2*c+1).testBit 0=true:=by rw[aiz]; simp
  have a2:(2*c).testBit 0=false:=by rw[aiz]; simp
  rw[a1,a2]; rfl
 ·obtain⟨k,hk⟩:∃ k,j - t=k+1:=⟨j - t - 1,by omega⟩
  rw[if_neg (by omega),hk,afO (by omega:j>=t),afP (by omega:¬ t=j),aiA,aiA];have a1:(2*c+1) / 2=c:=by omega
  have a2:2*c / 2=c:=by omega
  rw[a1,a2];cases c.testBit k <;> simp
theorem Wb:∀ t:Fin 64,(inR (Int.fdiv (IntKind.wrap .u64 (((2 ^ t.val:Nat):Int)*285870213051353865)) (2 ^ 58)) 64=true)/\(List.getD zh (Int.toNat (Int.fdiv (IntKind.wrap .u64 (((2 ^ t.val:Nat):Int)*285870213051353865)) (2 ^ 58))) 0=(t.val:Int)):=by decide +kernel
theorem Vn (N:Nat) {t c:Nat} (h:2 ^ t*(2*c+1)<18446744073709551616) (k:Kz5):sQ9 N ((2 ^ t*(2*c+1):Nat):Int) k=k (t:Int):=by
 have h64:(2:Nat) ^ 64=18446744073709551616:=by decide
 have ht0:0<2 ^ t:=af3 t;have hx0:0<2 ^ t*(2*c+1):=ahR ht0 (by omega);have ht:t<64:=by
  rcases agP t 64 with h1 | h1
  ·exact h1
  ·have h2:2 ^ 64<=2 ^ t:=af5 (by decide) h1;have h3:2 ^ t*1<=2 ^ t*(2*c+1):=afW _ (by omega);omega
 (unfold sQ9; rw[ac]; unfold GQ9)
 have ha:=P3 (t:=t) (c:=c) (by omega);rw[h64]at ha;generalize 2 ^ t*(2*c+1)=x at *;have e0:((x:Int)==0)=false:=by simp; omega
 have ew:IntKind.wrap .u64 (0 - (x:Int))=((18446744073709551616 - x:Nat):Int):=by rw[am]; omega
 obtain⟨t1,t2⟩:=Wb ⟨t,ht⟩;rw[e0,afQ,ew,uE h (by omega),ha,aa t1,t2,aa afM]
theorem Vp {V w:Nat} (h:V / 18446744073709551616 ^ w ≠ 0):w<(ae V).length:=by
 rcases agP w (ae V).length with h1 | h1
 ·exact h1
 ·exfalso;have h2:=iM (aX V);rw[aC]at h2;exact h (agm (af9 h2 (af5 (by decide) h1)))
theorem Kl {B n:Nat} (h:aT B n):(ae n).length<=B / 64+1:=by
 refine f9 _ _ ?_;have e:(18446744073709551616:Nat)=2 ^ 64:=by decide
 rw[e,<- aiI];exact af9 h (af5 (by decide) (by omega))
theorem KQ {N:Nat} (g:Bool) (n:Nat) (h:(ae n).length<=1099511627776) (k:Ky4):Rs N g (ae n) k=sG (-(aY g n)) k:=by
 (unfold Rs; rw[ac]; unfold SW)
 rw[xH _ h,ob (!g) g (ae n) n k];congr 1; unfold aY; cases g <;> simp
theorem On {N:Nat} (hN:1000<=N) (n:Nat) (hn:n<18446744073709551616) (b:Bool) (k:Ky4):Rl N n b k=k false (ae n):=by
 (unfold Rl; rw[ac]; unfold SJ)
 rw[ui hN n hn]; rfl
theorem sI {N:Nat} (hN:1000<=N) (n:Nat) (hn:n<9223372036854775808) (k:Ky4):Gy N n k=k false (ae n):=by
 (unfold Gy RV; unfold W5; rw[ac]; unfold S0)
 have e:IntKind.wrap .u64 (n:Int)=n:=by rw[am]; omega
 rw[afP (by omega:¬(n:Int)<0),afQ,e,ui hN n (by omega)]; rfl
theorem KP {N:Nat} (s:Nat) (b g:Bool) (n:Nat) (hs:s<4294967296) (hN:(ae n).length+s / 64+4<N) (h:(ae n).length<=1099511627776) (k:Ky4):VT N s b g (ae n) k=sG (aY g (n*2 ^ s)) k:=by unfold VT Wz;rw[KZ _ (aX n) s hs hN h,aC,HY g b _ k]
theorem qu {n:Nat} (h0:n ≠ 0) (h:n<18446744073709551616):ae n=[(n:Int)]:=by rw[bN h0,agm h,bg,afZ h]
theorem uF (a b:Int):aB .or .u64 a b=aB .or .u64 b a:=by unfold aB rn;simp only[agC];rw[BitVec.or_comm]
end Go.Proofs.YtdinakfmablagaaGreatDoor
