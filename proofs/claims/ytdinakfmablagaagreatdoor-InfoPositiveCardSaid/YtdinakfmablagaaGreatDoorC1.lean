/- Laws in plain Lean. Conditions: none. -/
import Derived.Test.YtdinakfmablagaaGreatDoorGp
import Derived.Test.YtdinakfmablagaaGreatDoorBig
set_option linter.unusedVariables false
namespace Go.Proofs.YtdinakfmablagaaGreatDoor
open Go Go.Mach
theorem aa {a c:Bool} (h:a=true):(a&&c)=c:=by rw[h]; rfl
theorem am (z:Int):IntKind.wrap .u64 z=z%18446744073709551616:=by rfl
theorem dI (z:Int):IntKind.wrap .u32 z=z%4294967296:=by rfl
theorem km (z:Int):Int.fdiv z (2 ^ 32)=z / 4294967296:=by rw[agP _ (by decide)]; rfl
theorem aJ {σ:Type} {step:σ->(σ->Bool)->Bool} {s:σ} (C:Nat->σ) (n:Nat) {N:Nat} (h0:s=C 0) (hn:n<N) {out:Bool} (hs:∀ i,i<n -> ∀ K:σ->Bool,step (C i) K=K (C (i+1))) (hx:∀ K,step (C n) K=out):ah N step s=out:=by subst h0; exact aP C n hn hs hx
def bZ (b:List Int):Nat->Nat
 | 0=>0
 | n+1=>if b.getD n 0=0 then bZ b n else n+1
theorem oE (b:List Int) (n:Nat):bZ b (n+1)=if b.getD n 0=0 then bZ b n else n+1:=rfl
theorem jX (b:List Int):∀ n,bZ b n<=n
 | 0=>afw _
 | n+1=>by unfold bZ; split; exact Nat.le_succ_of_le (jX b n); exact afw _
theorem eP {b:List Int} {i:Nat} (h:b.length<=i):b.getD i 0=0:=by rw[List.getD_eq_getElem?_getD,List.getElem?_eq_none h]; rfl
theorem aT {m:List Int} (i:Nat):aG (m.take (i+1))=aG (m.take i)+4294967296 ^ i*(m.getD i 0).toNat:=by
 by_cases h:i<m.length
 ·exact Bf h
 ·rw[eP (by omega),afH (by omega),afH (by omega)]; simp
theorem sr (b:List Int):∀ n,aG (b.take (bZ b n))=aG (b.take n)
 | 0=>rfl
 | n+1=>by
  unfold bZ;split
  ·rename_i h;rw[sr b n,aT,h]; simp
  ·rfl
theorem getLast?_take {b:List Int} {n:Nat} (h:n<b.length):(b.take (n+1)).getLast? = some (b.getD n 0):=by rw[agD h,List.getLast?_append,List.getD_eq_getElem?_getD,List.getElem?_eq_getElem h];simp
theorem so (b:List Int):∀ n,n<=b.length -> ∀ x,(b.take (bZ b n)).getLast? = some x->x ≠ 0
 | 0,_,x,h=>by simp[bZ]at h
 | n+1,hn,x,h=>by
  unfold bZ at h;split at h
  ·exact so b n (by omega) x h
  ·rename_i h0;rw[getLast?_take (by omega)]at h;cases h; exact h0
theorem tH {b:List Int} (hb:InW b):b.take (bZ b b.length)=aj (aG b):=by have h1:=sr b b.length;rw[af3]at h1;rw[<- h1,xG (hb.take _) (so b b.length (afw _))]
theorem lI {N:Nat} (b:List Int) (hN:b.length<N) (hs:b.length<9223372036854775807) (k:Kz3):pY N b k=k (bZ b b.length):=by
 (unfold pY; rw[ac]; unfold Tq)
 have key:∀ n,n<=b.length -> ∀ M,n<M->ah M (wn N 0 b λm=>k m) n=k (bZ b n):=by
  intro n;induction n with
  | zero=>
   intro _ M hM;cases M with
   | zero=>omega
   | succ M=>
    show wn N 0 b _ 0 _=_;simp[wn,bZ]
  | succ n ih=>
   intro hn M hM;cases M with
   | zero=>omega
   | succ M=>
    show wn N 0 b _ (n+1) (ah M _)=_;have e:Int.toNat (((n+1:Nat):Int) - 1)=n:=by omega
    simp only[wn,e,afL,aht];rw[afi (by omega:((n+1:Nat):Int)>0),aa afg,aa afh,aa (afi (by omega)),aa afg,aa (afi (by omega)),ih (by omega) M (by omega)];rw[oE];by_cases h0:b.getD n 0=0
    ·have:(b.getD n 0==0)=true:=by simpa using h0
     rw[this,if_pos h0]; rfl
    ·have:(b.getD n 0==0)=false:=by simpa using h0
     rw[this,if_neg h0]; rfl
 exact key b.length (afw _) N hN
theorem JD {N:Nat} (m:List Int) (hm:InW m) (hN:m.length<N) (hs:m.length<9223372036854775807) (k:Kz6):lO N m k=k (aj (aG m)):=by
 (unfold lO; rw[ac]; unfold xA)
 have key:∀ n,n<9223372036854775807 -> ∀(l:List Int),l.length=n->InW l -> ∀ M,n<M->ah M (gq N λZK=>k ZK) l=k (aj (aG l)):=by
  intro n;induction n with
  | zero=>
   intro _ l hl _ M hM;cases M with
   | zero=>omega
   | succ M=>
    have:l=[]:=List.length_eq_zero_iff.1 hl;subst this;show gq N _ [] _=_;simp[gq,aG,be]
  | succ n ih=>
   intro hn l hl hw M hM;cases M with
   | zero=>omega
   | succ M=>
    show gq N _ l (ah M _)=_;have e:Int.toNat ((l.length:Int) - 1)=n:=by omega
    simp only[gq,e,agN];rw[afi (by omega:(l.length:Int)>0),aa afg,aa afh,aa afg,aa (afi (by omega)),ih (by omega) (l.take n) (by simp; omega) (hw.take n) M (by omega)];have e2:=aT (m:=l) n;rw[afH (by omega)]at e2;by_cases h0:l.getD n 0=0
    ·have:(l.getD n 0==0)=true:=by simpa using h0
     rw[this];rw[h0]at e2;simp at e2;rw[e2]; rfl
    ·have:(l.getD n 0==0)=false:=by simpa using h0
     rw[this,xG hw (λx hx=>by have:=getLast?_take (b:=l) (n:=n) (by omega);rw[afH (by omega)]at this;rw[this]at hx; cases hx; exact h0)]
     rfl
 exact key m.length hs m rfl hm N hN
theorem dN {N:Nat} (b:List Int) (hb:InW b) (hN:b.length<N) (hs:b.length<9223372036854775807) (k:Kz6) :
  (pY N b λl=>(decide (0+l<=b.length))&&k (List.take l (List.drop 0 b)))=k (aj (aG b)):=by
 rw[lI b hN hs,agN,tH hb];have:=jX b b.length;rw[afi (by omega)]; rfl
def f7 (N:Nat) (l:List Int):Prop:=l.length+2<N/\l.length<=17592186044416
theorem eO (T A i:Nat):(T+4294967296 ^ i*A) / 4294967296 ^ i=T / 4294967296 ^ i+A:=agh _ _ (agt (by decide))
theorem Iu (m:List Int) (i:Nat):aG m=aG (m.take i)+4294967296 ^ (m.take i).length*aG (m.drop i):=by rw[<- sK,ah1]
theorem cu (m:List Int) (i:Nat):∃ R,aG m=aG (m.take i)+4294967296 ^ i*R:=by
 by_cases h:i<=m.length
 ·refine⟨aG (m.drop i),?_⟩;have:=Iu m i
  rwa [af0,agz h]at this
 ·exact⟨0,by rw[afH (by omega)]; simp⟩
theorem bB {m:List Int} (h:InW m) (i:Nat):aG (m.take i)<4294967296 ^ i:=by
 have h1:=fz (h.take i);have h2:(m.take i).length<=i:=by simp; omega
 exact afD h1 (afz (by decide) h2)
theorem mh {S T R i:Nat} (h:S=T+4294967296 ^ (i+1)*R):S / 4294967296 ^ i%4294967296=T / 4294967296 ^ i%4294967296:=by rw[h,afv,aft,eO,agC]
theorem C_ {N:Nat} (a b:List Int) (ha:InW a) (hb:InW b) (hl:b.length<=a.length) (hN:f7 N a) (k:Kz6) :
  ah N (gL N a b λcarry out=>(inR (a.length:Nat) out.length)&&((decide ((Int.toNat (a.length:Nat))<out.length)) &&
   (pY N (List.set out (Int.toNat (a.length:Nat)) (IntKind.wrap .u32 carry)) λaan=>(decide ((0+aan)<=(List.length (List.set out (Int.toNat (a.length:Nat)) (IntKind.wrap .u32 carry)))))&&k (List.take aan (List.drop 0 (List.set out (Int.toNat (a.length:Nat)) (IntKind.wrap .u32 carry)))))))
   (0,0,List.replicate (a.length+1) 0)=k (aj (aG a+aG b)):=by
 obtain⟨hN1,hN2⟩:=hN
 let S:=aG a+aG b
 let T:=λi=>aG (a.take i)+aG (b.take i)
 refine aJ (λi=>(((T i / 4294967296 ^ i:Nat):Int),(i:Int),dl S i++List.replicate (a.length+1 - i) 0)) a.length (by simp[T,aG,dl]) (by omega) (λi hi K=>?_) (λK=>?_)
 ·have hx:=ha.at (i:=i);have hy:=hb.at (i:=i);have hT:T (i+1)=T i+4294967296 ^ i*((a.getD i 0).toNat+(b.getD i 0).toNat):=by simp only[T,aT,afB]; omega
  have hq:T (i+1) / 4294967296 ^ i=T i / 4294967296 ^ i+((a.getD i 0).toNat+(b.getD i 0).toNat):=by rw[hT,eO]
  have hc:T i / 4294967296 ^ i<=1:=by
   have h1:=bB ha i;have h2:=bB hb i;have h3:T i<4294967296 ^ i*2:=by simp only[T]; omega
   have:=(afs (agt (n:=i) (by decide:0<4294967296))).2 (by rw[afn]; exact h3:T i<2*4294967296 ^ i);omega
  have hdiv:T (i+1) / 4294967296 ^ (i+1)=T (i+1) / 4294967296 ^ i / 4294967296:=by rw[afv,afr]
  have hdig:S / 4294967296 ^ i%4294967296=T (i+1) / 4294967296 ^ i%4294967296:=by obtain⟨R1,h1⟩:=cu a (i+1);obtain⟨R2,h2⟩:=cu b (i+1);refine mh (R:=R1+R2) ?_;simp only[S,T];rw[afB]; omega
  have hset:=Aq S i (a.length+1) (by omega);have hlen:(dl S i++List.replicate (a.length+1 - i) 0).length=a.length+1:=by simp[al]; omega
  generalize hq':T i / 4294967296 ^ i=q at *;generalize hx':a.getD i 0=x at *;generalize hy':b.getD i 0=y at *;simp only[gL,afo];rw[afi (by omega:(i:Int)<a.length),afl,hx',hy',aa afh,hlen];have hstep:∀ s:Int,s=((q+(x.toNat+y.toNat):Nat):Int)->K ((Int.fdiv s (2 ^ 32)),((i:Int)+1),(List.set (dl S i++List.replicate (a.length+1 - i) 0) i (IntKind.wrap .u32 s)))=K (((T (i+1) / 4294967296 ^ (i+1):Nat):Int),((i+1:Nat):Int),dl S (i+1)++List.replicate (a.length+1 - (i+1)) 0):=by
   intro s hs;have e1:Int.fdiv s (2 ^ 32)=((T (i+1) / 4294967296 ^ (i+1):Nat):Int):=by rw[km,hdiv,hq,hs]; omega
   have e2:IntKind.wrap .u32 s=((S / 4294967296 ^ i%4294967296:Nat):Int):=by rw[dI,hdig,hq,hs]; omega
   rw[e1,e2,hset]; rfl
  by_cases hib:i<b.length
  ·rw[afi (by omega:(i:Int)<b.length),afl,aa afh,aa afh,aa (afi (by omega)),aa afg];exact hstep _ (by simp only[am]; omega)
  ·rw[afj (by omega:¬(i:Int)<b.length),afk,aa afh,aa (afi (by omega)),aa afg];have hy0:y=0:=by rw[<- hy']; exact eP (by omega)
   subst hy0;exact hstep _ (by simp only[am]; omega)
 ·simp only[gL];rw[afj (by omega:¬(a.length:Int)<a.length),afk];have hT:T a.length=S:=by simp only[T,S]; rw[af3,afH hl]
  have hS:S<4294967296 ^ (a.length+1):=by have h1:=fz ha;have h2:=fz hb;have h3:4294967296 ^ b.length<=4294967296 ^ a.length:=afz (by decide) hl;rw[afv];simp only[S]; omega
  have hlen:(dl S a.length++List.replicate (a.length+1 - a.length) 0).length=a.length+1:=by simp[al]
  have e2:IntKind.wrap .u32 ((T a.length / 4294967296 ^ a.length:Nat):Int)=((S / 4294967296 ^ a.length%4294967296:Nat):Int):=by rw[dI,hT]; omega
  have hset:=Aq S a.length (a.length+1) (by omega);rw[e2,afo,hset,hlen,aa afh,aa (afi (by omega)),afT,afX,afU,
   dN _ (jk S _) (by rw[al]; omega) (by rw[al]; omega),qx hS]
theorem Pb {N:Nat} (a b:List Int) (ha:InW a) (hb:InW b) (hNa:f7 N a) (hNb:f7 N b) (k:Kz6):we N a b k=k (aj (aG a+aG b)):=by
 (unfold we; rw[ac]; unfold vo)
 have h1:=hNa.2;have h2:=hNb.2;by_cases h:a.length<b.length
 ·rw[afi (by omega:(a.length:Int)<b.length),afl,aa afg,aa (bI (by omega) (by omega) (by omega) (by omega))];have e:Int.toNat ((b.length:Int)+1)=b.length+1:=by omega
  rw[e,C_ b a hb ha (by omega) hNb k,ahi]
 ·rw[afj (by omega:¬(a.length:Int)<b.length),afk,aa afg,aa (bI (by omega) (by omega) (by omega) (by omega))];have e:Int.toNat ((a.length:Int)+1)=a.length+1:=by omega
  rw[e,C_ a b ha hb (by omega) hNa k]
theorem aY (i:Nat):0<4294967296 ^ i:=agt (by decide)
theorem AJ {D e P:Nat} {z:Int} (h:(D:Int)=(e:Int)+(P:Int)*z) (he:e<P):((D / P:Nat):Int)=z:=by
 have hP:(P:Int) ≠ 0:=by omega
 rw[Int.natCast_ediv,h,Int.add_mul_ediv_left _ _ hP,<- Int.natCast_ediv,afO he];simp
theorem oB (P A B x y:Nat) (hA:A<P) (hB:B<P):(if A+P*x<B+P*y then 1 else 0)=if x<y+(if A<B then 1 else 0)then 1 else(0:Nat):=by
 by_cases hxy:x<y
 ·have:P*(x+1)<=P*y:=afq P hxy;rw[afB]at this;rw[if_pos (by omega),if_pos (by omega)]
 ·by_cases hyx:y<x
  ·have:P*(y+1)<=P*x:=afq P hyx;rw[afB]at this;rw[if_neg (by omega),if_neg (by split <;> omega)]
  ·have:x=y:=by omega
   subst this;by_cases hAB:A<B
   ·rw[if_pos (by omega),if_pos hAB,if_pos (by omega)]
   ·rw[if_neg (by omega),if_neg hAB,if_neg (by omega)]
theorem Fo {P A B x y o R1 R2 D a b:Nat} (hA:A<P) (hB:B<P) (ho:o=if A<B then 1 else 0) (h1:a=A+P*x+P*4294967296*R1) (h2:b=B+P*y+P*4294967296*R2) (hD:(D:Int)=(a:Int) - (b:Int)) :
  ((D / P:Nat):Int)=(x:Int) - (y:Int) - (o:Int)+4294967296*((R1:Int) - (R2:Int)):=by
 have he:∃ e:Nat,e<P/\(e:Int)=(A:Int) - (B:Int)+(P:Int)*(o:Int):=by
  rw[ho];split
  ·exact⟨A+P - B,by omega,by omega⟩
  ·exact⟨A - B,by omega,by omega⟩
 obtain⟨e,he1,he2⟩:=he;refine AJ (e:=e) ?_ he1;have e1:(a:Int)=A+(P:Int)*x+4294967296*((P:Int)*R1):=by rw[h1,aft,afP]; simp
 have e2:(b:Int)=B+(P:Int)*y+4294967296*((P:Int)*R2):=by rw[h2,aft,afP]; simp
 have e3:(P:Int)*((x:Int) - (y:Int) - (o:Int)+4294967296*((R1:Int) - (R2:Int)))=(P:Int)*x - (P:Int)*y - (P:Int)*o+(4294967296*((P:Int)*R1) - 4294967296*((P:Int)*R2)):=by rw[Int.mul_add,ahK,ahK,Int.mul_left_comm,ahK,ahK]
 rw[hD,e1,e2,e3,he2];omega
theorem ya {N:Nat} (a b:List Int) (ha:InW a) (hb:InW b) (hle:aG b<=aG a) (hN:f7 N a) (k:Kz6):mI N a b k=k (aj (aG a - aG b)):=by
 obtain⟨hN1,hN2⟩:=hN
 (unfold mI; rw[ac]; unfold rW)
 rw[aa (bI (by omega) (by omega) (by omega) (by omega)),afo]
 let D:=aG a - aG b
 let bo:=λi=>if aG (a.take i)<aG (b.take i)then(1:Nat)else 0
 refine aJ (λi=>(((bo i:Nat):Int),(i:Int),dl D i++List.replicate (a.length - i) 0)) a.length (by simp[bo,aG,dl]) (by omega) (λi hi K=>?_) (λK=>?_)
 ·have hx:=ha.at (i:=i);have hy:=hb.at (i:=i);have hA:=aT (m:=a) i;have hB:=aT (m:=b) i;have hAl:=bB ha i;have hBl:=bB hb i;have hset:=Aq D i a.length (by omega);have hl:(dl D i++List.replicate (a.length - i) 0).length=a.length:=by simp[al]; omega
  obtain⟨R1,h1⟩:=cu a (i+1);obtain⟨R2,h2⟩:=cu b (i+1);have hD:(D:Int)=(aG a:Int) - (aG b:Int):=by simp only[D]; omega
  have hP:=aY i;have hPs:4294967296 ^ (i+1)=4294967296 ^ i*4294967296:=afv ..;have hbo:bo i<=1:=by simp only[bo]; split <;> omega
  have hbs:bo (i+1)=if (a.getD i 0).toNat<(b.getD i 0).toNat+bo i then 1 else 0:=by simp only[bo,hA,hB];exact oB _ _ _ _ _ hAl hBl
  have hq:((D / 4294967296 ^ i:Nat):Int)=((a.getD i 0).toNat:Int) - ((b.getD i 0).toNat:Int) - (bo i:Int)+4294967296*((R1:Int) - (R2:Int)):=by rw[hA,hPs]at h1;rw[hB,hPs]at h2;exact Fo hAl hBl rfl h1 h2 hD
  have hdig:((D / 4294967296 ^ i%4294967296:Nat):Int)=(((a.getD i 0).toNat:Int) - ((b.getD i 0).toNat:Int) - (bo i:Int))%4294967296:=by rw[Int.natCast_emod,hq];exact Int.add_mul_emod_self_left _ _ _
  generalize hx':a.getD i 0=x at *;generalize hy':b.getD i 0=y at *;generalize bo i=o at *;generalize bo (i+1)=o' at *;simp only[kY,afo];have hy0:¬ i<b.length->y=0:=λh=>by rw[<- hy']; exact eP (by omega)
  have fin:∀(v w:Int),v=(o':Int)->w%4294967296=((D / 4294967296 ^ i%4294967296:Nat):Int)->K (v,(i:Int)+1,List.set (dl D i++List.replicate (a.length - i) 0) i (IntKind.wrap .u32 w))=K ((o':Int),((i+1:Nat):Int),dl D (i+1)++List.replicate (a.length - (i+1)) 0):=by intro v w hv hw;rw[hv,dI,hw,hset]; rfl
  simp only[hx',hy',hl];rw[afi (by omega:(i:Int)<a.length),afl];by_cases hib:i<b.length
  ·rw[afi (by omega:(i:Int)<b.length),afl,aa afh,aa afh];by_cases hlt:x.toNat<y.toNat+o
   ·rw[afi (by simp only[am]; omega),afl,aa afh,aa (afi (by omega)),aa afg];rw[if_pos hlt]at hbs;exact fin _ _ (by omega) (by rw[hdig]; simp only[am]; omega)
   ·rw[afj (by simp only[am]; omega),afk,aa afh,aa (afi (by omega)),aa afg];rw[if_neg hlt]at hbs;exact fin _ _ (by omega) (by rw[hdig]; simp only[am]; omega)
  ·have hy1:=hy0 hib;rw[afj (by omega:¬(i:Int)<b.length),afk,aa afh];by_cases hlt:x.toNat<y.toNat+o
   ·rw[afi (by simp only[am]; omega),afl,aa afh,aa (afi (by omega)),aa afg];rw[if_pos hlt]at hbs;exact fin _ _ (by omega) (by rw[hdig]; simp only[am]; omega)
   ·rw[afj (by simp only[am]; omega),afk,aa afh,aa (afi (by omega)),aa afg];rw[if_neg hlt]at hbs;exact fin _ _ (by omega) (by rw[hdig]; simp only[am]; omega)
 ·simp only[kY];rw[afj (by omega:¬(a.length:Int)<a.length),afk,afT,afX,afU];have hS:D<4294967296 ^ a.length:=by have:=fz ha; simp only[D]; omega
  rw[dN _ (jk D _) (by rw[al]; omega) (by rw[al]; omega),qx hS]
theorem cP (a c s:Nat) (ha:a<2 ^ s) (hlt:2 ^ s*c+a<18446744073709551616):aD .or .u64 (a:Int) ((2 ^ s*c:Nat):Int)=((2 ^ s*c+a:Nat):Int):=by
 unfold aD rq;simp only[af8];have e:((BitVec.ofInt (IntKind.bits .u64) (a:Int)) ||| (BitVec.ofInt (IntKind.bits .u64) ((2 ^ s*c:Nat):Int))).toNat=2 ^ s*c+a:=by
  show((BitVec.ofInt 64 (a:Int)) ||| (BitVec.ofInt 64 ((2 ^ s*c:Nat):Int))).toNat=_;have h64:(2:Nat) ^ 64=18446744073709551616:=by decide
  rw[BitVec.toNat_or,ags,ags,agA,agA,afu (by omega),afu (by omega),Nat.or_comm,<- aie ha]
 rw[e,xu _ hlt]
theorem Hf (n:Nat) (h:n<4294967296):IntKind.wrap .u32 (n:Int)=n:=by rw[dI]; omega
theorem ru (a c s:Nat) (ha:a<2 ^ s) (hlt:2 ^ s*c+a<4294967296):aD .or .u32 (a:Int) ((2 ^ s*c:Nat):Int)=((2 ^ s*c+a:Nat):Int):=by
 unfold aD rq;simp only[af8];have e:((BitVec.ofInt (IntKind.bits .u32) (a:Int)) ||| (BitVec.ofInt (IntKind.bits .u32) ((2 ^ s*c:Nat):Int))).toNat=2 ^ s*c+a:=by
  show((BitVec.ofInt 32 (a:Int)) ||| (BitVec.ofInt 32 ((2 ^ s*c:Nat):Int))).toNat=_;have h32:(2:Nat) ^ 32=4294967296:=by decide
  rw[BitVec.toNat_or,ags,ags,agA,agA,afu (by omega),afu (by omega),Nat.or_comm,<- aie ha]
 rw[e,Hf _ hlt]
def dM (x y:Nat):Int:=if x<y then -1 else if x=y then 0 else 1
theorem NV {P A B x y:Nat} (hA:A<P) (h:x<y):dM (A+P*x) (B+P*y) = -1:=by have:P*(x+1)<=P*y:=afq P h;rw[afB]at this;unfold dM;rw[if_pos (by omega)]
theorem NU {P A B x y:Nat} (hB:B<P) (h:y<x):dM (A+P*x) (B+P*y)=1:=by have:P*(y+1)<=P*x:=afq P h;rw[afB]at this;unfold dM;rw[if_neg (by omega),if_neg (by omega)]
theorem E9 {P A B x:Nat}:dM (A+P*x) (B+P*x)=dM A B:=by
 unfold dM;by_cases h3:A<B
 ·rw[if_pos h3,if_pos (by omega)]
 ·by_cases h4:A=B
  ·subst h4; simp
  ·rw[if_neg h3,if_neg h4,if_neg (by omega),if_neg (by omega)]
theorem Dy {N:Nat} (a b:List Int) (ha:InW a) (hb:InW b) (hl:a.length=b.length) (hs:a.length<9223372036854775807) (k:Kz2) :
  ∀ n,n<=a.length -> ∀ M,n<M->ah M (wj N a b (λt4=>k t4) (k 0)) ((n:Int) - 1)=k (dM (aG (a.take n)) (aG (b.take n))):=by
 intro n;induction n with
 | zero=>
  intro _ M hM;cases M with
  | zero=>omega
  | succ M=>
   show wj N a b _ _ ((0:Nat) - 1:Int) _=_;simp[wj,dM,aG]
 | succ n ih=>
  intro hn M hM;cases M with
  | zero=>omega
  | succ M=>
   show wj N a b _ _ (((n+1:Nat):Int) - 1) (ah M _)=_;have e:(((n+1:Nat):Int) - 1)=(n:Int):=by omega
   have hx:=ha.at (i:=n);have hy:=hb.at (i:=n);have hA:=aT (m:=a) n;have hB:=aT (m:=b) n;have hAl:=bB ha n;have hBl:=bB hb n;rw[e];simp only[wj,afo];rw[hA,hB,afi (by omega:(n:Int)>=0),afl,aa afh,aa afh,aa afh,aa afh,aa afg,ih (by omega) M (by omega)];by_cases h1:a.getD n 0<b.getD n 0
   ·rw[afi h1,afl,NV hAl (by omega)]
   ·rw[afj h1,afk];by_cases h2:a.getD n 0>b.getD n 0
    ·rw[afi h2,afl,NU hBl (by omega)]
    ·rw[afj h2,afk];have:a.getD n 0=b.getD n 0:=by omega
     rw[this,E9]
theorem ce {x y:Nat} (h:x<=y):(aj x).length<=(aj y).length:=by
 induction y using Nat.strongRecOn generalizing x with
 | ind y ih=>
  by_cases hx:x=0
  ·subst hx; rw[be]; simp
  ·rw[cI hx,cI (by omega:y ≠ 0)];simp only[afW];have:=ih (y / 4294967296) (by omega) (x:=x / 4294967296) (ahD h);omega
theorem iJ {N:Nat} (x y:Nat) (hx:f7 N (aj x)) (hy:f7 N (aj y)) (k:Kz2):Eg N (aj x) (aj y) k=k (dM x y):=by
 (unfold Eg; rw[ac]; unfold TN)
 obtain⟨x1,x2⟩:=hx;obtain⟨y1,y2⟩:=hy;by_cases h:(aj x).length=(aj y).length
 ·have e:(((aj x).length:Int) != (aj y).length)=false:=by rw[h]; simp
  rw[e,afk,aa afg,Dy (aj x) (aj y) (bv x) (bv y) h (by omega) k _ (afw _) N (by omega),af3,h,af3,aM,aM]
 ·have e:(((aj x).length:Int) != (aj y).length)=true:=by simp; omega
  rw[e,afl];by_cases h1:(aj x).length<(aj y).length
  ·rw[afi (by omega),afl];have:x<y:=by
    rcases agb x y with h2 | h2
    ·exact h2
    ·have:=ce h2; omega
   unfold dM; rw[if_pos this]
  ·rw[afj (by omega),afk];have:¬ x<=y:=λh2=>by have:=ce h2; omega
   unfold dM; rw[if_neg (by omega),if_neg (by omega)]
def bl (n:Nat):Nat:=if n=0 then 0 else n.log2+1
theorem me {n:Nat} (j:Nat) (h:2 ^ j<=n):bl n=j+bl (n / 2 ^ j):=by
 have hp:0<2 ^ j:=afy j;have h0:n ≠ 0:=by omega
 have h1:n / 2 ^ j ≠ 0:=by have:=ahL h hp;omega
 unfold bl;rw[if_neg h0,if_neg h1];have hj:j<=n.log2:=(Nat.le_log2 h0).2 h;have:(n / 2 ^ j).log2=n.log2 - j:=by
  rw[Nat.log2_eq_iff h1];have h2:=Nat.log2_self_le h0;have h3:n<2 ^ (n.log2+1):=Nat.lt_log2_self;constructor
  ·rw[agT hp,<- afx];rw[show n.log2 - j+j=n.log2 by omega]; exact h2
  ·rw[afs hp,<- afx];rw[show n.log2 - j+1+j=n.log2+1 by omega]; exact h3
 omega
theorem Wy:∀ i:Fin 256,aA.getD i.val 0=(bl i.val:Int):=by decide +kernel
theorem Qf {i:Nat} (h:i<256):aA.getD i 0=(bl i:Int):=Wy ⟨i,h⟩
theorem EW {n:Nat} (h:n<256):bl n<=8:=by
 unfold bl;split
 ·omega
 ·rename_i h0;have:=(Nat.log2_lt h0).2 (by simpa using h:n<2 ^ 8);omega
theorem S9 (z:Int):IntKind.wrap .u8 z=z%256:=by rfl
theorem SG (z:Int):Int.fdiv z (2 ^ 8)=z / 256:=by rw[agP _ (by decide)]; rfl
theorem Oj (z:Int):Int.fdiv z (2 ^ 16)=z / 65536:=by rw[agP _ (by decide)]; rfl
theorem CN (N:Nat) (x:Nat) (h:x<4294967296) (k:Kz2):J0 N (x:Int) k=k (bl x:Int):=by
 (unfold J0; rw[ac]; unfold M5)
 simp only[SG,Oj,S9];have key:∀(z:Int) (m:Nat),z=(m:Int)->m<256 -> ∀ c:Nat,c<=32->((inR z 256)&&((af .i64 (List.getD aA (Int.toNat z) 0))&&((af .i64 ((c:Int)+(List.getD aA (Int.toNat z) 0)))&&k ((c:Int)+List.getD aA (Int.toNat z) 0))))=k ((c+bl m:Nat):Int):=by intro z m hz hm c hc;subst hz;have:=EW hm;rw[afo,Qf hm,aa afh,aa afg,aa afg];rfl
 by_cases h16:65536<=x
 ·rw[afi (by omega:(x:Int)>=65536),afl];have e16:=me (n:=x) 16 (by simpa using h16);have p16:(2:Nat) ^ 16=65536:=by decide
  have p8:(2:Nat) ^ 8=256:=by decide
  rw[p16]at e16;by_cases h8:256<=x / 65536
  ·rw[afi (by omega:(x:Int) / 65536>=256),afl];have e8:=me (n:=x / 65536) 8 (by simpa using h8);rw[p8]at e8;have:=key ((x:Int) / 65536 / 256%256) (x / 65536 / 256) (by omega) (by omega) 24 (by omega);rw[show((24:Nat):Int)=24 from rfl]at this;rw[this]; congr 2; omega
  ·rw[afj (by omega:¬(x:Int) / 65536>=256),afk];have:=key ((x:Int) / 65536%256) (x / 65536) (by omega) (by omega) 16 (by omega);rw[show((16:Nat):Int)=16 from rfl]at this;rw[this]; congr 2; omega
 ·rw[afj (by omega:¬(x:Int)>=65536),afk];by_cases h8:256<=x
  ·rw[afi (by omega:(x:Int)>=256),afl];have e8:=me (n:=x) 8 (by simpa using h8);rw[show(2:Nat) ^ 8=256 by decide]at e8;have:=key ((x:Int) / 256%256) (x / 256) (by omega) (by omega) 8 (by omega);rw[show((8:Nat):Int)=8 from rfl]at this;rw[this]; congr 2; omega
  ·rw[afj (by omega:¬(x:Int)>=256),afk];have:=key ((x:Int)%256) x (by omega) (by omega) 0 (by omega);rw[show((0:Nat):Int)=0 from rfl]at this;rw[this]; congr 2; omega
theorem sv:∀ n,n ≠ 0->bl n=32*((aj n).length - 1)+bl ((aj n).getD ((aj n).length - 1) 0).toNat/\0<(aj n).length:=by
  intro n;induction n using Nat.strongRecOn with
  | ind n ih=>
    intro h;rw[cI h];by_cases h1:n / 4294967296=0
    · rw[h1,be]
      have:n%4294967296=n:=afu (by omega);simp[this]
    · obtain⟨i1,i2⟩:=ih (n / 4294967296) (by omega) h1
      have e:=me (n:=n) 32 (by have:(2:Nat) ^ 32=4294967296:=(by decide); omega);rw[show(2:Nat) ^ 32=4294967296 by decide]at e;refine⟨?_,by simp⟩;have e2:(((n%4294967296:Nat):Int)::aj (n / 4294967296)).getD ((((n%4294967296:Nat):Int)::aj (n / 4294967296)).length - 1) 0=(aj (n / 4294967296)).getD ((aj (n / 4294967296)).length - 1) 0:=by
        simp only[afW,ahO];generalize aj (n / 4294967296)=l at i2 ⊢;cases l with
        | nil=>simp at i2
        | cons y l=>simp
      rw[e2,e,i1];simp only[afW];omega
theorem AU {N:Nat} (g:Bool) (n:Nat) (hs:f7 N (aj n)) (k:Kz2):Mn N g (aj n) k=k (bl n:Int):=by
  (unfold Mn; rw[ac]; unfold TP)
  obtain⟨s1,s2⟩:=hs;by_cases h:n=0
  · subst h; rw[be]; rfl
  · obtain⟨e1,e2⟩:=sv n h
    have e0:(((aj n).length:Int)==0)=false:=by simp; intro h'; rw[h']at e2; simp at e2
    have e3:Int.toNat (((aj n).length:Int) - 1)=(aj n).length - 1:=by omega
    have hw:=(bv n).at (i:=(aj n).length - 1);have hb:bl ((aj n).getD ((aj n).length - 1) 0).toNat<=32:=by
      unfold bl; split
      · omega
      · rename_i h0
        have:=(Nat.log2_lt h0).2 (by have:(2:Nat) ^ 32=4294967296:=(by decide); omega:((aj n).getD ((aj n).length - 1) 0).toNat<2 ^ 32);omega
    have e4:(aj n).getD ((aj n).length - 1) 0=((((aj n).getD ((aj n).length - 1) 0).toNat:Nat):Int):=by omega
    rw[e0,afk,aa afg,aa afg,aa afg,aa afh,e3,e4,CN N _ (by omega),aa afg];congr 1; omega
theorem vC:∀(w X:Nat),dl (4294967296 ^ w*X) w=List.replicate w 0:=by
 intro w;have key:∀ n,n<=w -> ∀ X,dl (4294967296 ^ w*X) n=List.replicate n 0:=by
  intro n;induction n with
  | zero=>intro _ X; rfl
  | succ n ih=>
   intro hn X;rw[dl,ih (by omega),agY];have e:4294967296 ^ w*X=4294967296 ^ n*(4294967296*(4294967296 ^ (w - n - 1)*X)):=by rw[<- aft,<- aft,<- afv,<- afx];congr 2; omega
   rw[e,afV _ (aY n),ait];rfl
 exact key w (afw _)
theorem xc (n:Nat):2 ^ n=4294967296 ^ (n / 32)*2 ^ (n%32):=by
 have:(4294967296:Nat)=2 ^ 32:=by decide
 rw[this,<- aif,<- afx];congr 1; omega
theorem bu {α:Type} (xs:List α) (y:α) (ys:List α) (z:α) (n:Nat) (h:n=xs.length):(xs++y::ys).set n z=xs++z::ys:=by subst h; rw[ahw _ _ (afw _),afT]; rfl
theorem ci {xs:List Int} {y:Int} {ys:List Int} {n:Nat} (h:n=xs.length):(xs++y::ys).getD n 0=y:=by subst h; rw[List.getD_eq_getElem?_getD,List.getElem?_append_right (afw _),afT]; rfl
theorem O6 {N:Nat} (m:List Int) (hm:InW m) (n:Nat) (hn:n<4294967296) (hN:m.length+n / 32+4<N) (hs:m.length<=1099511627776) (k:Kz6):wc N m n k=k (aj (aG m*2 ^ n)):=by
 (unfold wc; rw[ac]; unfold vn)
 by_cases h0:m.length=0
 ·have:m=[]:=List.length_eq_zero_iff.1 h0;subst this;simp[aG,be]
 ·have e0:((m.length:Int)==0)=false:=by simp; intro h; subst h; simp at h0
  have ew:IntKind.wrap .u64 (Int.tdiv (n:Int) 32)=((n / 32:Nat):Int):=by rw[am,ago (by omega)]; omega
  have es:Int.tmod (n:Int) 32=((n%32:Nat):Int):=by rw[age (by omega)]; rfl
  rw[e0,afk,ew,es];generalize hw:n / 32=w at *;generalize hsh:n%32=s at *;have hs32:s<32:=by omega
  have hp2:2 ^ n=4294967296 ^ w*2 ^ s:=by rw[xc,hw,hsh]
  have hs0:0<2 ^ s:=afy s;have hs1:2 ^ s*2 ^ (32 - s)=4294967296:=by rw[<- afx,show s+(32 - s)=32 by omega]
  have hs2:2 ^ s<=2147483648:=by have:2 ^ s<=2 ^ 31:=afz (by decide) (by omega);simpa using this
  have elen:Int.toNat (((w:Nat):Int)+(m.length:Int)+1)=w+m.length+1:=by omega
  rw[aa afg,aa afg,aa afg,aa (bI (by omega) (by omega) (by omega) (by omega)),elen]
  let V:=aG m*2 ^ n
  let X:=aG m*2 ^ s
  have hVX:V=4294967296 ^ w*X:=by simp only[V,X]; rw[hp2,afP]
  let T:=λi=>aG (m.take i)*2 ^ s
  let c:=λi=>T i / 4294967296 ^ i
  refine aJ (λi=>((i:Int),dl V (w+i)++((c i:Nat):Int)::List.replicate (m.length - i) 0)) m.length ?_ (by omega) (λi hi K=>?_) (λK=>?_)
  ·congr 1;show List.replicate (w+m.length+1) (0:Int)=dl V w++((c 0:Nat):Int)::List.replicate m.length 0;rw[hVX,vC];have hc0:c 0=0:=by simp[c,T,aG]
   rw[hc0];have:w+m.length+1=w+(m.length+1):=by omega
   rw[this,<- ag4,af5]; rfl
  ·have hx:=hm.at (i:=i);have hT:T (i+1)=T i+4294967296 ^ i*((m.getD i 0).toNat*2 ^ s):=by simp only[T,aT,afM,aft]
   have hq:T (i+1) / 4294967296 ^ i=c i+(m.getD i 0).toNat*2 ^ s:=by rw[hT,eO]
   have hci:c i<2 ^ s:=by simp only[c,T];rw[afs (aY i),afn];exact agu (bB hm i) hs0
   have hc1:c (i+1)=(c i+(m.getD i 0).toNat*2 ^ s) / 4294967296:=by rw[<- hq]; simp only[c]; rw[afv,afr]
   have hdig:V / 4294967296 ^ (w+i)%4294967296=(c i+(m.getD i 0).toNat*2 ^ s)%4294967296:=by rw[<- hq,hVX,afx,<- afr,afV _ (aY w)];obtain⟨R,hR⟩:=cu m (i+1);refine mh (R:=R*2 ^ s) ?_;simp only[X,T];rw[hR,afM,aft]
   have hrep:List.replicate (m.length - i) (0:Int)=0::List.replicate (m.length - (i+1)) 0:=by rw[show m.length - i=(m.length - (i+1))+1 by omega,af5]
   have hdl:=al V (w+i);have ei:Int.toNat ((w:Int)+(i:Int))=w+i:=by omega
   have ei1:Int.toNat ((w:Int)+(i:Int)+1)=w+i+1:=by omega
   have emin:min s 64=s:=by omega
   simp only[fo,afo,ei,ei1,emin];rw[hrep,ci hdl.symm,bu _ _ _ _ _ hdl.symm];have et:IntKind.wrap .u64 (IntKind.wrap .u64 (m.getD i 0)*2 ^ s)=(((m.getD i 0).toNat*2 ^ s:Nat):Int):=by
    have hxs:(m.getD i 0).toNat*2 ^ s<4294967296*2147483648:=af4 (by omega) hs2 (by decide);have e1:IntKind.wrap .u64 (m.getD i 0)=(((m.getD i 0).toNat:Nat):Int):=by rw[am]; omega
    have e2:(((m.getD i 0).toNat:Nat):Int)*2 ^ s=(((m.getD i 0).toNat*2 ^ s:Nat):Int):=by simp
    rw[e1,e2,am]; omega
   rw[et];generalize hxx:(m.getD i 0).toNat=x at *;have hx32:x<4294967296:=by omega
   have hlow:x*2 ^ s%4294967296=2 ^ s*(x%2 ^ (32 - s)):=by
    have e:x*2 ^ s%(2 ^ s*2 ^ (32 - s))=2 ^ s*(x%2 ^ (32 - s)):=by rw[afn x]; exact ahc _ _ _
    rwa [hs1]at e
   have hsum:2 ^ s*(x%2 ^ (32 - s))+c i<4294967296:=by have h1:x%2 ^ (32 - s)+1<=2 ^ (32 - s):=afA _ (afy _);have h2:=afq (2 ^ s) h1;rw[hs1,afB]at h2;omega
   have eor:aD .or .u32 ((c i:Nat):Int) (IntKind.wrap .u32 ((x*2 ^ s:Nat):Int))=((V / 4294967296 ^ (w+i)%4294967296:Nat):Int):=by
    have e1:IntKind.wrap .u32 ((x*2 ^ s:Nat):Int)=((2 ^ s*(x%2 ^ (32 - s)):Nat):Int):=by rw[<- hlow,dI]; omega
    rw[e1,ru _ _ s hci hsum,hdig];omega
   have ehi:IntKind.wrap .u32 (Int.fdiv ((x*2 ^ s:Nat):Int) (2 ^ 32))=((c (i+1):Nat):Int):=by have hxs:x*2 ^ s<4294967296*2147483648:=af4 hx32 hs2 (by decide);rw[km,dI,hc1];omega
   rw[eor,ehi];have hl1:∀(a b:Int) (ys:List Int),(dl V (w+i)++a::b::ys).length=w+i+2+ys.length:=by intro a b ys; simp[hdl]; omega
   have hset2:(dl V (w+i)++((V / 4294967296 ^ (w+i)%4294967296:Nat):Int)::0::List.replicate (m.length - (i+1)) 0).set (w+i+1) ((c (i+1):Nat):Int)=dl V (w+(i+1))++((c (i+1):Nat):Int)::List.replicate (m.length - (i+1)) 0:=by
    have:dl V (w+i)++((V / 4294967296 ^ (w+i)%4294967296:Nat):Int)::0::List.replicate (m.length - (i+1)) 0=dl V (w+(i+1))++0::List.replicate (m.length - (i+1)) 0:=by rw[<- afY,dl]; simp
    rw[this];exact bu _ _ _ _ _ (by rw[al]; omega)
   rw[hset2,hl1,hl1];simp only[agI];rw[afi (by omega:(i:Int)<m.length),afl,aa afh,aa (afi (by omega)),aa afg,aa afh,aa (afi (by omega)),aa afh,aa (afi (by omega)),
    aa afg,aa afg,aa afh,aa (afi (by omega)),aa afg]
   rfl
  ·simp only[fo];rw[afj (by omega:¬(m.length:Int)<m.length),afk,afT,afX];have hV:V<4294967296 ^ (w+m.length+1):=by have h1:=fz hm;simp only[V];rw[hp2,afv,afx,afP,aft];refine agu ?_ (aY w);exact af4 h1 (by omega) (by decide)
   have hT:T m.length=X:=by simp only[T,X]; rw[af3]
   have hend:dl V (w+m.length)++[((c m.length:Nat):Int)]=dl V (w+m.length+1):=by
    rw[dl];have:c m.length=V / 4294967296 ^ (w+m.length)%4294967296:=by simp only[c];rw[hT,hVX,afx,<- afr,afV _ (aY w)];rw[afu];rw[afs (aY _),afn];have h1:=fz hm;simp only[X];exact af4 h1 (by omega) (by decide)
    rw[this]
   rw[hend,dN _ (jk V _) (by rw[al]; omega) (by rw[al]; omega),qx hV]
theorem Cy {m:List Int} (hm:InW m) (j:Nat):∃ R,aG m / 4294967296 ^ j=(m.getD j 0).toNat+4294967296*(m.getD (j+1) 0).toNat+4294967296*4294967296*R:=by
 obtain⟨R,hR⟩:=cu m (j+2);refine⟨R,?_⟩;rw[hR,aT,aT];simp only[afv];have e:aG (m.take j)+4294967296 ^ j*(m.getD j 0).toNat+4294967296 ^ j*4294967296*(m.getD (j+1) 0).toNat+4294967296 ^ j*4294967296*4294967296*R
   = aG (m.take j)+4294967296 ^ j*((m.getD j 0).toNat+4294967296*(m.getD (j+1) 0).toNat+4294967296*4294967296*R):=by
  rw[afB,afB,aft,aft,aft,aft]; omega
 rw[e,eO,afO (bB hm j),afL]
theorem uv {N:Nat} (n:Nat) (hn:n<18446744073709551616) (hN:4<N) (k:Kz6):Dd N n k=k (aj n):=by
 (unfold Dd; rw[ac]; unfold Nj)
 have hw:InW [IntKind.wrap .u32 (n:Int),IntKind.wrap .u32 (Int.fdiv (n:Int) (2 ^ 32))]:=by intro x hx;simp only[dI,km,agJ,aho,or_false]at hx;rcases hx with rfl | rfl <;> omega
 have hv:aG [IntKind.wrap .u32 (n:Int),IntKind.wrap .u32 (Int.fdiv (n:Int) (2 ^ 32))]=n:=by simp only[aG,dI,km]; omega
 rw[dN _ hw (by simp; omega) (by simp),hv]
def sg (neg:Bool) (n:Nat):Bool:=neg&&decide (n ≠ 0)
theorem nl (n:Nat):decide (((aj n).length:Int)>0)=decide (n ≠ 0):=by
 by_cases h:n=0
 ·subst h; rw[be]; simp
 ·obtain⟨-,h2⟩:=sv n h;rw[afi (by omega),afi h]
theorem SP (neg:Bool) (n:Nat) (k:Ky2):cond (neg==true) (k (decide (((aj n).length:Int)>0)) (aj n)) (k false (aj n))=k (sg neg n) (aj n):=by rw[nl];cases neg <;> rfl
theorem nB {N:Nat} (neg:Bool) (m:List Int) (b:Bool) (hm:InW m) (hN:f7 N m) (k:Ky2):zf N neg m b k=k (sg neg (aG m)) (aj (aG m)):=by unfold zf So;rw[JD m hm (by have:=hN.1; omega) (by have:=hN.2; omega)];exact SP neg _ k
theorem uZ {N:Nat} (n:Nat) (hn:n<18446744073709551616) (b:Bool) (hN:f7 N (aj n)) (h4:4<N) (k:Ky2):R7 N n b k=k false (aj n):=by
 (unfold R7; rw[ac]; unfold TJ)
 rw[uv n hn h4,nB false _ b (bv n) hN,aM];rfl
def bc (g:Bool) (n:Nat):Int:=if g=true then -(n:Int)else n
def uH (z:Int) (k:Ky2):Bool:=k (decide (z<0)) (aj z.natAbs)
theorem uA (g:Bool) (n:Nat) (k:Ky2):k (sg g n) (aj n)=uH (bc g n) k:=by
 unfold uH bc sg;cases g
 ·simp only[af9,afS,ahY,agf];rw[afj (by omega)]
 ·simp only[agU,agq,ahZ,agf];congr 1;by_cases h:n=0
  ·subst h; rfl
  ·rw[afi h,afi (by omega)]
theorem OG (z:Int):bc (decide (z<0)) z.natAbs=z:=by
 unfold bc;by_cases h:z<0
 ·rw[afi h]; simp; omega
 ·rw[afj h]; simp; omega
theorem tZ {x y:Nat}:decide (dM x y>=0)=decide (y<=x):=by
 unfold dM;split
 ·rw[afj (by omega),afj (by omega)]
 ·split
  ·rw[afi (by omega),afi (by omega)]
  ·rw[afi (by omega),afi (by omega)]
theorem Mv (g1 g2 turn:Bool) (n1 n2:Nat) (k:Ky2) :
  cond (g1==(g2 != turn)) (k (sg (g2 != turn) (n1+n2)) (aj (n1+n2))) (cond (decide (dM n1 n2>=0)) (k (sg g1 (n1 - n2)) (aj (n1 - n2))) (k (sg (g2 != turn) (n2 - n1)) (aj (n2 - n1))))
   = uH (bc g1 n1+(if turn=true then -(bc g2 n2)else bc g2 n2)) k:=by
 rw[uA _ _ k,uA _ _ k,uA _ _ k,tZ];have key:∀ a b:Int,a=b->uH a k=uH b k:=λa b h=>by rw[h]
 cases g1 <;> cases g2 <;> cases turn <;> simp only[bc] <;> by_cases h:n2<=n1 <;> simp only[h,aiu,aim,afl,afk,bne,aha,agd,af1,af9,agU,afS,(by decide:(false==true)=false),(by decide:(true==false)=false)] <;> refine key _ _ ?_ <;> omega
theorem LC {N:Nat} (turn b g1:Bool) (n1:Nat) (g2:Bool) (n2:Nat) (h1:f7 N (aj n1)) (h2:f7 N (aj n2)) (h3:f7 N (aj (n1+n2))) (k:Ky2) :
  Wq N turn b g1 (aj n1) g2 (aj n2) k=uH (bc g1 n1+(if turn=true then -(bc g2 n2)else bc g2 n2)) k:=by
 (unfold Wq; rw[ac]; unfold TZ)
 have hs:∀ m,m<=n1+n2->f7 N (aj m):=λm hm=>by have:=ce hm;exact⟨by have:=h3.1; omega,by have:=h3.2; omega⟩
 rw[Pb _ _ (bv _) (bv _) h1 h2,iJ _ _ h1 h2,aM,aM,nB _ _ _ (bv _) h3,aM,<- Mv];congr 1;by_cases h:n2<=n1
 ·rw[ya _ _ (bv _) (bv _) (by rw[aM,aM]; exact h) h1,aM,aM,nB _ _ _ (bv _) (hs _ (by omega)),aM,tZ,afi h];rfl
 ·rw[ya _ _ (bv n2) (bv n1) (by rw[aM,aM]; omega) h2,aM,aM,nB _ _ _ (bv _) (hs _ (by omega)),aM,tZ,afj h];rfl
theorem Lk {N:Nat} (b g1:Bool) (n1:Nat) (g2:Bool) (n2:Nat) (h1:f7 N (aj n1)) (h2:f7 N (aj n2)) (h3:f7 N (aj (n1+n2))) (k:Ky2) :
  PF N b g1 (aj n1) g2 (aj n2) k=uH (bc g1 n1 - bc g2 n2) k:=by
 unfold PF Sn;rw[LC true b g1 n1 g2 n2 h1 h2 h3]; rfl
def XJ (N m s:Nat):Prop:=(aj m).length+s / 32+4<N/\(aj m).length<=1099511627776/\s<4294967296/\f7 N (aj (m*2 ^ s))
theorem CO {N:Nat} (s:Nat) (b g:Bool) (n:Nat) (h:XJ N n s) (k:Ky2):JZ N s b g (aj n) k=uH (bc g (n*2 ^ s)) k:=by
 (unfold JZ; rw[ac]; unfold MX)
 rw[O6 _ (bv n) s h.2.2.1 h.1 h.2.1,aM,nB _ _ _ (bv _) h.2.2.2,aM,uA _ _ k]
theorem AY {N:Nat} (n:Nat) (hn:n<9223372036854775808) (hs:f7 N (aj n)) (h4:4<N) (k:Ky2):nt N n k=k false (aj n):=by
 (unfold nt wD; unfold SX; rw[ac]; unfold M4 jj)
 have e:IntKind.wrap .u64 (n:Int)=n:=by rw[am]; omega
 rw[afj (by omega:¬(n:Int)<0),afk,e,uv n (by omega) h4,nB _ _ _ (bv _) hs,aM];rfl
theorem N9:aj 1=[1]:=by rw[cI (by decide),be]; rfl
theorem kF (a b:Nat):Int.fdiv (a:Int) (b:Int)=((a / b:Nat):Int):=by rw[agP _ (by omega)]; rfl
theorem rC (N:Nat) (k:Kz2):yk N 52 2047 1075 k=k 9223372036854775808:=by rfl
theorem ne (N:Nat) (k:Kz2):pz N 52 2047 1075 k=k 9218868437227405312:=by rfl
theorem kz (N:Nat) (k:Kz2):mH N 52 2047 1075 k=k 4503599627370496:=by rfl
theorem zA (N:Nat) (k:Kz2):yj N 52 2047 1075 k=k 9221120237041090561:=by
 (unfold yj; rw[ac]; unfold xz)
 simp only[ne,kz];exact aio k (by decide)
theorem Ri (N:Nat) (b:Nat) (k:Kz1):PG N b 52 2047 1075 k=k (isNaN b):=by
 (unfold PG; rw[ac]; unfold MY)
 simp only[rC,ne,pI];congr 1;rw[agR,agK,fK];omega
def cnb (b:Nat):Nat:=if isNaN b then 9221120237041090561 else b
theorem CU (N:Nat) (b:Nat) (k:Kz2):PV N b 52 2047 1075 k=k (cnb b):=by unfold PV WT;simp only[Ri,zA,cnb];cases isNaN b <;> rfl
theorem CW (N:Nat) (b:Nat) (k:Kx8):R5 N b 52 2047 1075 k=k (aD .and .u64 (cnb b) 9223372036854775808 != 0) ((cnb b / 4503599627370496%2048:Nat):Int) ((cnb b%4503599627370496:Nat):Int):=by
 (unfold R5; rw[ac]; unfold TH)
 simp only[CU,rC,kz];have e1:(2:Int) ^ (min (Int.toNat 52) 64)=((4503599627370496:Nat):Int):=by decide
 have e2:IntKind.wrap .u64 2047=((2 ^ 11 - 1:Nat):Int):=by decide
 have e3:IntKind.wrap .u64 (4503599627370496 - 1)=((2 ^ 52 - 1:Nat):Int):=by decide
 have e4:decide ((0:Int)<=52)=true:=by decide
 rw[e1,kF,e2,e3,kg _ _ (by decide),kg _ _ (by decide),e4,ab (by omega) (by omega)];rfl
theorem Dw (b:Nat):cls b=if (cnb b / 4503599627370496%2048)=2047 then(if cnb b%4503599627370496=0 then 2 else 1)else if cnb b / 4503599627370496%2048=0 then(if cnb b%4503599627370496=0 then 3 else 4)else 5:=by
 unfold cls cnb;by_cases h:isNaN b=true
 ·rw[if_pos h,if_pos h]; decide
 ·rw[if_neg h,if_neg h];have hn:¬(9218868437227405312<b%9223372036854775808):=λq=>h ((fK b).2 q)
  by_cases h1:b / 4503599627370496%2048=2047
  ·rw[if_pos h1,if_pos h1,if_pos (by omega)]
  ·rw[if_neg h1,if_neg h1]
theorem CV (N:Nat) (b:Nat) (k:Kz2):R4 N b 52 2047 1075 k=k (cls b):=by
 (unfold R4; rw[ac]; unfold TG)
 simp only[CW,Dw b];generalize cnb b / 4503599627370496%2048=e;generalize cnb b%4503599627370496=f;have d1:((e:Int)==2047)=decide (e=2047):=by rw[agR,agX,agK]; omega
 have d2:((e:Int)==0)=decide (e=0):=by rw[agR,agX,agK]; omega
 have d3:((f:Int)==0)=decide (f=0):=by rw[agR,agX,agK]; omega
 simp only[bne,d1,d2,d3];by_cases h1:e=2047 <;> by_cases h2:e=0 <;> by_cases h3:f=0 <;> simp[h1,h2,h3]
theorem Lc (N:Nat) (b:Nat) (k:Kz2):sQ7 N b k=k (cls b):=by unfold sQ7 GQ7;simp only[Ef,uB,Dp,CV]
theorem NW (a b:Nat) (_ha:a<18446744073709551616\/True):decide ((cnb a:Int)=cnb b)=decide (cn (some a)=cn (some b)):=by
 have hq:isNaN 9221120237041090561=true:=by decide
 rw[agR,agK,agK];have cf:∀ c,cn (some c)=if isNaN c=true then none else some c:=λ_=>rfl
 rw[cf,cf];unfold cnb;by_cases h1:isNaN a=true <;> by_cases h2:isNaN b=true
 ·simp[h1,h2]
 ·rw[if_pos h1,if_neg h2,if_pos h1,if_neg h2];refine⟨λh=>?_,λh=>by cases h⟩;have:b=9221120237041090561:=by omega
  rw[this]at h2; exact absurd hq h2
 ·rw[if_neg h1,if_pos h2,if_neg h1,if_pos h2];refine⟨λh=>?_,λh=>by cases h⟩;have:a=9221120237041090561:=by omega
  rw[this]at h1; exact absurd hq h1
 ·simp only[h1,h2,afS,afN,af9]; omega
theorem Q_ (N:Nat) (b:Nat) (k:Kz4):IJ N b k=k (B5 (some b)):=by unfold IJ WS;simp only[Ef,ze,pI];rfl
theorem NY (b:Bool) (k:Kz1):cond b (k true) (k false)=k b:=by cases b <;> rfl
theorem aV {a c:Bool} (h:a=true):(a&&c)=c:=by rw[h]; rfl
def bW (N n:Nat):Prop:=n<N/\n<=17592186044416
theorem Dj (i n j:Nat):Int.toNat ((i:Int)*(n:Int)+(j:Int))=i*n+j:=by rw[<- afF,<- Int.natCast_add,afo]
def uI (l:List Int):List Fl:=l.map λn=>fp n.toNat
theorem AZ {N:Nat} (l:List Int) (hl:bW N l.length) (k:Kz5):oh N l k=k (uI l):=by
 (unfold oh; rw[ac]; unfold vp)
 refine(aP (λi=>((i:Int),(l.take i).map λn=>fp n.toNat)) l.length hl.1 (λi hi K=>?_) (λK=>?_):_)
 ·have h2:=hl.2;have e1:(l.take (i+1)).map (λn=>fp n.toNat)=(l.take i).map (λn=>fp n.toNat)++[fp (l.getD i 0).toNat]:=by rw[agD hi,ag6,List.getD_eq_getElem?_getD,List.getElem?_eq_getElem hi]; rfl
  simp only[l9,ze,afo];rw[bJ (by omega),afl,aV afh,aV (bJ (by simp; omega)),aV afg,e1];rfl
 ·simp only[l9];rw[bK (by omega),afk,af3]; rfl
def aB (xs:List Fl):Bool:=ou (λi=>aE (xs.getD i none)) xs.length
theorem ge {N:Nat} (xs:List Fl) (hl:bW N xs.length) (k:Kz1):u_ N xs k=k (aB xs):=by
 (unfold u_; rw[ac]; unfold MR)
 rw[<- NY (aB xs) k];refine(lH (λi=>(i:Int)) (λi=>aE (xs.getD i none)) xs.length hl.1 (λi hi K=>?_) (λK=>?_):_)
 ·have h2:=hl.2;simp only[kT,PU,afo];rw[bJ (by omega),afl,aV afh,aV afg];have hc:=E8 (xs.getD i none);generalize Ag (xs.getD i none)=c at hc ⊢;generalize aE (xs.getD i none)=f at hc ⊢;have d1:(c==1)=decide (c=1):=rfl;have d2:(c==2)=decide (c=2):=rfl;rw[d1,d2];generalize decide (c=1)=u at *;generalize decide (c=2)=v at *;cases u <;> cases v <;> cases f <;> first | rfl | cases hc
 ·simp only[kT];rw[bK (by omega),afk]
def mV:Fl->Nat
 | none=>9221120237041090561
 | some b=>cnb b
theorem IB (d:Ieee.Datum) (h:d.isNaN=false):d.order d=some .eq:=by
 cases d with
 | nan s t=>cases h
 | infinity s=>simp[Ieee.Datum.order,compare,compareOfLessAndEq]
 | number s m i=>simp[Ieee.Datum.order,compare,compareOfLessAndEq]
theorem KU (b:Nat) (h:isNaN b=false):(Ieee.double.order b b==some .eq)=true:=by unfold Ieee.Format.order;rw[IB _ h]; rfl
theorem Om (b:Nat):feq (some b) (some b) = !isNaN b:=by
 cases h:isNaN b with
 | true=>simp[feq,wL,oa b h]
 | false=>simp only[feq,wL,af1]; exact KU b h
theorem FO (N:Nat) (x:Fl) (k:Kz2):og N x k=k (mV x):=by
 unfold og zV zd;cases x with
 | none=>rfl
 | some b=>
  rw[Om];simp only[mV,cnb];cases isNaN b <;> rfl
theorem Gn (a b:Nat):Int.tmod (a:Int) (b:Int)=((a%b:Nat):Int):=by rw[age (by omega)]; rfl
theorem CQ (N:Nat) (x:Fl) (k:Kx8):o_ N x k=k (Int.fdiv (mV x:Int) (2 ^ 63)==1) ((mV x / 4503599627370496%2048:Nat):Int) ((mV x%4503599627370496:Nat):Int):=by
 (unfold o_; rw[ac]; unfold r_)
 simp only[FO];have e1:(2:Int) ^ 52=((4503599627370496:Nat):Int):=by decide
 have e2:(2048:Int)=((2048:Nat):Int):=rfl;have e3:(4503599627370496:Int)=((4503599627370496:Nat):Int):=rfl;rw[e1,e2,e3,kF,Gn,Gn,ab (by omega) (by omega)];rfl
theorem KJ (x:Fl):Ag x=if (mV x / 4503599627370496%2048)=2047 then(if mV x%4503599627370496=0 then 2 else 1)else if mV x / 4503599627370496%2048=0 then(if mV x%4503599627370496=0 then 3 else 4)else 5:=by
 cases x with
 | none=>decide
 | some b=>exact Dw b
theorem Ca (N:Nat) (x:Fl) (k:Kz2):tk N x k=k (Ag x):=by
 (unfold tk yw; unfold S2; rw[ac]; unfold Nq)
 simp only[CQ,KJ x];generalize mV x / 4503599627370496%2048=e;generalize mV x%4503599627370496=f;have d1:((e:Int)==2047)=decide (e=2047):=by rw[agR,agX,agK]; omega
 have d2:((e:Int)==0)=decide (e=0):=by rw[agR,agX,agK]; omega
 have d3:((f:Int)==0)=decide (f=0):=by rw[agR,agX,agK]; omega
 simp only[bne,d1,d2,d3];by_cases h1:e=2047 <;> by_cases h2:e=0 <;> by_cases h3:f=0 <;> simp[h1,h2,h3]
theorem A8 (N:Nat) (x:Fl) (k:Kz1):rb N x k=k (aE x):=by
 unfold rb wE;simp only[Ca];congr 1;have h1:=E8 x;have h2:=QE x;rw[agR,agK];cases hf:aE x with
 | true=>
  rw[hf]at h1;simp only[agd,Bool.or_eq_false_iff,ahd]at h1;exact⟨λ_=>rfl,λ_=>by omega⟩
 | false=>
  rw[hf]at h1;simp only[af1,aic,ag3]at h1;exact⟨λ_=>by omega,λh=>by cases h⟩
theorem uY {N:Nat} (xs:List Fl) (hl:bW N xs.length) (k:Kz1):JY N xs k=k (aB xs):=by
 (unfold JY; rw[ac]; unfold MW)
 rw[<- NY (aB xs) k];refine(lH (λi=>(i:Int)) (λi=>aE (xs.getD i none)) xs.length hl.1 (λi hi K=>?_) (λK=>?_):_)
 ·have h2:=hl.2;simp only[gr,afo,A8];rw[bJ (by omega),afl,aV afh,aV afg];cases aE (xs.getD i none) <;> rfl
 ·simp only[gr];rw[bK (by omega),afk]
theorem NJ (x y:Fl):((mV x:Int)==mV y)=decide (cn x=cn y):=by
 have hq:cn (some 9221120237041090561)=none:=by decide
 have hb:cnb 9221120237041090561=9221120237041090561:=by decide
 have key:∀ x,∃ a,mV x=cnb a/\cn x=cn (some a):=by
  intro x;cases x with
  | none=>exact⟨9221120237041090561,hb.symm,hq.symm⟩
  | some b=>exact⟨b,rfl,rfl⟩
 obtain⟨a,e1,e2⟩:=key x;obtain⟨b,e3,e4⟩:=key y;rw[e1,e2,e3,e4,<- NW a b (.inr trivial)];rfl
theorem wZ (N:Nat) (x y:Fl) (k:Kz1):re N x y k=k (decide (cn x=cn y)):=by
 (unfold re; rw[ac]; unfold vq)
 simp only[FO,NJ]
theorem CI {σ:Type} {step:σ->(σ->Bool)->Bool} {s:σ} (C:Nat->σ) (n:Nat) {N:Nat} (h0:s=C 0) (hn:n<N) {out:Bool} (hs:∀ i,i<n -> ∀ K:σ->Bool,step (C i) K=K (C (i+1))) (hx:∀ K,step (C n) K=out):ah N step s=out:=by subst h0; exact aP C n hn hs hx
theorem jQ {σ:Type} {step:σ->(σ->Bool)->Bool} {s:σ} (C:Nat->σ) (p:Nat->Bool) (n:Nat) {N:Nat} (h0:s=C 0) (hn:n<N) {ex out:Bool}
  (hs:∀ i,i<n -> ∀ K:σ->Bool,step (C i) K=cond (p i) (K (C (i+1))) ex) (hx:∀ K,step (C n) K=out):ah N step s=cond (ou p n) out ex:=by
 subst h0; exact lH C p n hn hs hx
theorem dF {n i j:Nat} (hi:i<n) (hj:j<n):i*n+j<n*n:=by have:(i+1)*n<=n*n:=afm n hi;rw[afM]at this; omega
theorem n_ {n:Nat} (h:n<=12):n*n<=144:=af7 h h
theorem Xm {n i:Nat} (h:n<=12) (hi:i<n):i*n<=144:=af7 (by omega:i<=12) h
theorem pr (a b:Int):(a != b) = !decide (a=b):=rfl
theorem Pf (N:Nat) (n:Int) (k:Kz1):GN N n k=k (decide (0<=n/\n<=12)):=by
 unfold GN Qw;by_cases h1:0<=n
 ·rw[bJ (p:=n>=0) h1]; simp[h1]
 ·rw[bK (p:=n>=0) h1]; simp[h1]
def chk (r c:Int) (xs:List Fl):Int:=if (0<=r/\r<=12)/\(0<=c/\c<=12)then(if (xs.length:Int)=r*c then(if aB xs=true then 0 else 4)else 3)else 1
theorem JS {r c:Int} (hr:0<=r/\r<=12) (hc:0<=c/\c<=12):af .i64 (r*c)=true:=by have h1:0<=r*c:=Int.mul_nonneg hr.1 hc.1;have h2:r*c<=12*12:=Int.mul_le_mul hr.2 hc.2 hc.1 (by decide);exact ab (by omega) (by omega)
theorem K_ {N:Nat} (r c:Int) (xs:List Fl) (hl:bW N xs.length) (k:Kz2):v7 N r c xs k=k (chk r c xs):=by
 (unfold v7; rw[ac]; unfold Qt chk)
 simp only[Pf,ge xs hl];by_cases hr:0<=r/\r<=12
 ·by_cases hc:0<=c/\c<=12
  ·rw[bJ hr,bJ hc,if_pos ⟨hr,hc⟩,pr,JS hr hc];by_cases hx:(xs.length:Int)=r*c
   ·rw[bJ hx,if_pos hx]; cases aB xs <;> rfl
   ·rw[bK hx,if_neg hx]; rfl
  ·rw[bJ hr,bK hc,if_neg (λh=>hc h.2)]; rfl
 ·rw[bK hr,if_neg (λh=>hr h.1)]; rfl
theorem mg {r c:Int} {xs:List Fl}:chk r c xs=0↔((0<=r/\r<=12)/\(0<=c/\c<=12))/\(xs.length:Int)=r*c/\aB xs=true:=by
 unfold chk;split
 ·split
  ·split
   ·simp[*]
   ·simp[*]
  ·simp[*]
 ·simp[*]
def elt (xs:List Fl) (n i j:Nat):Fl:=xs.getD (i*n+j) none
def upP (xs:List Fl) (n i j:Nat):Bool:=decide (cn (elt xs n i j)=cn (some 0))
def nY (xs:List Fl) (n i:Nat):Bool:=ou (λd=>upP xs n i (i+1+d)) (n - (i+1))
def LJ (xs:List Fl) (n:Nat):Bool:=ou (nY xs n) n
def ow (xs:List Fl) (n i:Nat):Bool:=fgt (elt xs n i i) (some 0)
theorem JN (V x Bk bk i k:Nat):V%4294967296 ^ (i+k+1)+x*(Bk+4294967296 ^ k*bk)*4294967296 ^ i=(V%4294967296 ^ (i+k)+x*Bk*4294967296 ^ i)+4294967296 ^ (i+k)*(V / 4294967296 ^ (i+k)%4294967296+x*bk):=by rw[Nat.mod_pow_succ,afx];grind
theorem Hx (V x Bk bk i k:Nat):(V%4294967296 ^ (i+k+1)+x*(Bk+4294967296 ^ k*bk)*4294967296 ^ i) / 4294967296 ^ (i+k+1)=((V%4294967296 ^ (i+k)+x*Bk*4294967296 ^ i) / 4294967296 ^ (i+k)+V / 4294967296 ^ (i+k)%4294967296+x*bk) / 4294967296:=by rw[JN,afv,<- afr,agh _ _ (agt (by decide)),afY]
theorem E5 (V x Bk bk i k R:Nat):(V+x*(Bk+4294967296 ^ k*bk+4294967296 ^ (k+1)*R)*4294967296 ^ i) / 4294967296 ^ (i+k)%4294967296=((V%4294967296 ^ (i+k)+x*Bk*4294967296 ^ i) / 4294967296 ^ (i+k)+V / 4294967296 ^ (i+k)%4294967296+x*bk)%4294967296:=by
 have e:V+x*(Bk+4294967296 ^ k*bk+4294967296 ^ (k+1)*R)*4294967296 ^ i=(V%4294967296 ^ (i+k+1)+x*(Bk+4294967296 ^ k*bk)*4294967296 ^ i)+4294967296 ^ (i+k+1)*(V / 4294967296 ^ (i+k+1)+x*R):=by
  have h:=af_ V (4294967296 ^ (i+k+1));have h2:4294967296 ^ (i+k+1)=4294967296 ^ (k+1)*4294967296 ^ i:=by rw[<- afx]; congr 1; omega
  generalize V / 4294967296 ^ (i+k+1)=q at *;generalize V%4294967296 ^ (i+k+1)=r at *;rw[<- h,h2];grind
 rw[mh e,JN,agh _ _ (agt (by decide)),afY]
theorem NS {V x Bk i k:Nat} (hx:x<4294967296) (hB:Bk<4294967296 ^ k):(V%4294967296 ^ (i+k)+x*Bk*4294967296 ^ i) / 4294967296 ^ (i+k)<4294967296:=by
 rw[afs (agt (by decide))];have h1:V%4294967296 ^ (i+k)<4294967296 ^ (i+k):=afA _ (agt (by decide));have h2:x*Bk<=4294967295*4294967296 ^ k:=af7 (by omega) (by omega);have h3:x*Bk*4294967296 ^ i<=4294967295*4294967296 ^ (i+k):=by
  have:=afm (4294967296 ^ i) h2
  rwa [aft 4294967295,<- afx,ahi k i]at this
 omega
theorem ua (S:Nat) {L i:Nat} (h:i<L):(dl S L).getD i 0=((S / 4294967296 ^ i%4294967296:Nat):Int):=by
 induction L with
 | zero=>omega
 | succ L ih=>
  show((dl S L)++[_]).getD i 0=_;rw[List.getD_eq_getElem?_getD];by_cases hi:i<L
  ·rw[List.getElem?_append_left (by rw[al]; exact hi),<- List.getD_eq_getElem?_getD,ih hi]
  ·have:i=L:=by omega
   subst this;rw[List.getElem?_append_right (by rw[al]; exact afw _),al,afT]; rfl
theorem dr {l:List Int} {n:Nat} (h:n<l.length):l.drop n=l.getD n 0::l.drop (n+1):=by rw[List.drop_eq_getElem_cons h,List.getD_eq_getElem?_getD,List.getElem?_eq_getElem h]; rfl
theorem rE {b:List Int} {k:Nat}:aG (b.take (k+1))=aG (b.take k)+4294967296 ^ k*(b.getD k 0).toNat:=aT k
theorem Ap (U V L p:Nat) (h:p<L):(dl U p++(dl V L).drop p).set p ((U / 4294967296 ^ p%4294967296:Nat):Int)=dl U (p+1)++(dl V L).drop (p+1):=by rw[dr (by rw[al]; exact h),bu _ _ _ _ _ (by rw[al])];show _=(dl U p++[_])++_;rw[afC]; rfl
theorem HE (U V L p:Nat) (h:p<L):(dl U p++(dl V L).drop p).getD p 0=((V / 4294967296 ^ p%4294967296:Nat):Int):=by rw[dr (by rw[al]; exact h),ci (by rw[al]),ua V h]
theorem Ao (U V L p:Nat) (h:p<=L):(dl U p++(dl V L).drop p).length=L:=by simp[al]; omega
theorem KQ {U L p:Nat} (hU:U<4294967296 ^ p) (h:p<=L) {V:Nat} (hV:V<4294967296 ^ p):dl U p++(dl V L).drop p=dl U L:=by
 induction L with
 | zero=>
  have:p=0:=by omega
  subst this; rfl
 | succ L ih=>
  by_cases hp:p=L+1
  ·subst hp; rw[af6 (by rw[al]; omega),afU]
  ·have hpL:p<=L:=by omega
   have e:∀ X,X<4294967296 ^ p->dl X (L+1)=dl X L++[0]:=by intro X hX;show dl X L++[((X / 4294967296 ^ L%4294967296:Nat):Int)]=_;rw[afO (afD hX (afz (by decide) hpL))]; rfl
   rw[e V hV,e U hU,agm (by rw[al]; exact hpL),<- afC,ih hpL]
theorem vT {a:List Int} (ha:InW a) (i:Nat):aG (a.take i)<4294967296 ^ i:=bB ha i
theorem vS {x y i j:Nat} (hx:x<4294967296 ^ i) (hy:y<4294967296 ^ j):x*y<4294967296 ^ (i+j):=by rw[afx];exact aiA hx hy
theorem yc {N:Nat} (a b:List Int) (ha:InW a) (hb:InW b) (hN:a.length+b.length+2<N) (hs:a.length+b.length<=17592186044416) (k:Kz6):xg N a b k=k (aj (aG a*aG b)):=by
  (unfold xg; rw[ac]; unfold TK)
  have eL:Int.toNat (((a.length:Nat):Int)+((b.length:Nat):Int))=a.length+b.length:=by omega
  rw[aa afg,aa (bI (by omega) (by omega) (by omega) (by omega)),eL]
  let L:=a.length+b.length
  let B:=aG b
  have hB:B<4294967296 ^ b.length:=fz hb;refine aJ (λi=>((i:Int),dl (aG (a.take i)*B) L)) a.length ?_ (by omega) (λi hi K=>?_) (λK=>?_)
  · show((0:Int),List.replicate L (0:Int))=(((0:Nat):Int),dl (aG (a.take 0)*B) L)
    have:=vC L 0;rw[agF]at this;rw[ahF,show aG []=0 from rfl,agE,this]; rfl
  · simp only[k8]
    rw[afi (by omega:(i:Int)<a.length),afl];have hx:=ha.at (i:=i)
    let V:=aG (a.take i)*B
    let x:=(a.getD i 0).toNat
    let U:=aG (a.take (i+1))*B
    have hU:U=V+x*B*4294967296 ^ i:=by simp only[U,V,x];rw[rE];grind
    have hV:V<4294967296 ^ (i+b.length):=vS (vT ha i) hB;have hUl:U<4294967296 ^ (i+1+b.length):=vS (vT ha (i+1)) hB
    let c:=λj=>(V%4294967296 ^ (i+j)+x*aG (b.take j)*4294967296 ^ i) / 4294967296 ^ (i+j)
    refine aJ (λj=>(((c j:Nat):Int),(j:Int),dl U (i+j)++(dl V L).drop (i+j))) b.length ?_ (by omega) (λj hj K'=>?_) (λK'=>?_)
    · show((0:Int),(0:Int),dl V L)=_
      have h0:c 0=0:=by simp only[c,ahF,show aG []=0 from rfl,agF,agE,afR];exact afO (afA _ (agt (by decide)))
      have hlow:dl U i=dl V i:=by
        have:∀ n,n<=i->dl U n=dl V n:=by
          intro n;induction n with
          | zero=>intro _; rfl
          | succ n ih=>
            intro hn;show dl U n++[_]=dl V n++[_];rw[ih (by omega)];congr 3;have:U=V+4294967296 ^ (n+1)*(x*B*4294967296 ^ (i - (n+1))):=by rw[hU,afP,<- afx,show n+1+(i - (n+1))=i by omega]
            exact mh this
        exact this i (afw _)
      have hsp:dl V i++(dl V L).drop i=dl V L:=by
        have:∀ n,i<=n->dl V i++(dl V n).drop i=dl V n:=by
          intro n;induction n with
          | zero=>intro h; have:i=0:=(by omega); subst this; rfl
          | succ n ih=>
            intro h;by_cases hn:i=n+1
            · subst hn; rw[af6 (by rw[al]; omega),afU]
            · show dl V i++(dl V n++[_]).drop i=dl V n++[_]
              rw[agm (by rw[al]; omega),<- afC,ih (by omega)]
        exact this L (by simp only[L]; omega)
      rw[h0,afR,hlow,hsp]; rfl
    · have hy:=hb.at (i:=j)
      have hp:i+j<L:=by simp only[L]; omega
      have hlen:=Ao U V L (i+j) (by omega);have hget:=HE U V L (i+j) hp;have hset:=Ap U V L (i+j) hp;have hc:=NS (V:=V) (x:=x) (i:=i) (k:=j) (Bk:=aG (b.take j)) (by simp only[x]; omega) (vT hb j);have hstep:=Hx V x (aG (b.take j)) (b.getD j 0).toNat i j;obtain⟨R,hR⟩:=cu b (j+1);have hdig:=E5 V x (aG (b.take j)) (b.getD j 0).toNat i j R;rw[<- rE]at hstep hdig;rw[<- hR]at hdig;have hUe:V+x*aG b*4294967296 ^ i=U:=hU.symm;rw[hUe]at hdig;have hxy:x*(b.getD j 0).toNat<=4294967295*4294967295:=af7 (by simp only[x]; omega) (by omega);have eidx:Int.toNat ((i:Int)+(j:Int))=i+j:=by omega
      have hcj:∀ n,c n=(V%4294967296 ^ (i+n)+x*aG (b.take n)*4294967296 ^ i) / 4294967296 ^ (i+n):=λ_=>rfl
      have hax:a.getD i 0=(x:Int):=by simp only[x]; omega
      have hby:b.getD j 0=((b.getD j 0).toNat:Int):=by omega
      simp only[k9,afo,eidx,hlen,hget];rw[afi (by omega:(j:Int)<b.length),afl,aa afh,aa afh,aa afg,aa afh,aa (afi (by omega)),aa afg,aa afh,aa (afi (by omega)),aa afg];have ec1:c (j+1)=(c j+V / 4294967296 ^ (i+j)%4294967296+x*(b.getD j 0).toNat) / 4294967296:=hstep;have ed:U / 4294967296 ^ (i+j)%4294967296=(c j+V / 4294967296 ^ (i+j)%4294967296+x*(b.getD j 0).toNat)%4294967296:=hdig;have hcl:c j<4294967296:=hc;rw[ed]at hset;have vlt:V / 4294967296 ^ (i+j)%4294967296<4294967296:=afA _ (by decide);rw[hax,hby,show i+(j+1)=i+j+1 by omega,<- hset];generalize V / 4294967296 ^ (i+j)%4294967296=v at *;generalize (b.getD j 0).toNat=y at *;generalize dl U (i+j)++(dl V L).drop (i+j)=l at *;have et:∀ q:Nat,q=c j+v+x*y->IntKind.wrap .u64 ((IntKind.wrap .u64 ((IntKind.wrap .u64 ((IntKind.wrap .u64 (x:Int))*(IntKind.wrap .u64 (y:Int))))+(IntKind.wrap .u64 (v:Int))))+((c j:Nat):Int))=(q:Int):=by
        intro q hq;have exy:((x:Int))*(y:Int)=((x*y:Nat):Int):=by rw[afF]
        have hxl:x<4294967296:=by simp only[x]; omega
        have hyl:y<4294967296:=by omega
        have w1:IntKind.wrap .u64 (x:Int)=x:=by rw[am]; omega
        have w2:IntKind.wrap .u64 (y:Int)=y:=by rw[am]; omega
        rw[w1,w2,exy,am,am,am,am];omega
      rw[et _ rfl,ec1,km,dI];congr 1
    · simp only[k9]
      rw[afj (by omega:¬(b.length:Int)<b.length),afk];have hlen:=Ao U V L (i+b.length) (by simp only[L]; omega);have hset:=Ap U V L (i+b.length) (by simp only[L]; omega);have eidx:Int.toNat ((i:Int)+(b.length:Int))=i+b.length:=by omega
      have hLe:i+b.length<L:=by simp only[L]; omega
      have hc:c b.length=U / 4294967296 ^ (i+b.length):=by simp only[c];rw[af3,afu hV,hU]
      have hcl:U / 4294967296 ^ (i+b.length)<4294967296:=by
        rw[afs (agt (by decide))];have:i+1+b.length=i+b.length+1:=by omega
        rw[this,afv]at hUl;omega
      have ew:IntKind.wrap .u32 ((c b.length:Nat):Int)=((U / 4294967296 ^ (i+b.length)%4294967296:Nat):Int):=by rw[dI,hc]; omega
      have hfin:=KQ (U:=U) (V:=V) (L:=L) (p:=i+b.length+1) (by rw[show i+b.length+1=i+1+b.length by omega]; exact hUl) (by omega) (afD hV (afz (by decide) (by omega)));rw[aa afg,eidx,hlen,aa afh,aa (afi (by omega)),aa afg,ew,hset,hfin];rfl
  · simp only[k8]
    rw[afj (by omega:¬(a.length:Int)<a.length),afk,af3,dN _ (jk _ _) (by rw[al]; simp only[L]; omega) (by rw[al]; simp only[L]; omega)];rw[qx (vS (fz ha) hB)]
theorem AO (g h:Bool) (m n:Nat):bc (g != h) (m*n)=bc g m*bc h n:=by unfold bc;rw[afF];cases g <;> cases h <;> simp[aiw,aig]
theorem Fh (n:Nat):bZ (aj n) (aj n).length=(aj n).length:=by
 have ht:(aj n).take (bZ (aj n) (aj n).length)=aj n:=by rw[tH (bv n),aM]
 have hc:=jX (aj n) (aj n).length;have:=aio List.length ht;rw[af0]at this; omega
theorem Rt (g:Bool) (n:Nat) (k:Ky2):cond ((!g)==true) (k (decide (((aj n).length:Int)>0)) (aj n)) (k false (aj n))=uH (-(bc g n)) k:=by rw[SP,uA _ _ k];congr 1;unfold bc; cases g <;> simp
theorem CP {N:Nat} (g:Bool) (n:Nat) (hN:f7 N (aj n)) (k:Ky2):PP N g (aj n) k=uH (-(bc g n)) k:=by
 (unfold PP; rw[ac]; unfold Nf tx sc)
 obtain⟨h1,h2⟩:=hN;rw[aga,afi (by omega),agq,lI _ (by omega) (by omega),Fh];simp only[agN,af3];rw[afi (by omega:0+(aj n).length<=(aj n).length),agq];exact Rt g n k
def aX (B:Nat) (n:Nat):Prop:=n<2 ^ B
theorem cU:∀(j n:Nat),n<4294967296 ^ j->(aj n).length<=j
 | 0,n,h=>by
  have:n=0:=by simp at h; exact h
  subst this; rw[be]; exact afw _
 | j+1,n,h=>by
  by_cases h0:n=0
  ·subst h0; rw[be]; simp
  ·rw[cI h0,afW];have:n / 4294967296<4294967296 ^ j:=ahk (by rw[afv]at h; omega);have:=cU j _ this;omega
theorem Xy (j:Nat):4294967296 ^ j=2 ^ (32*j):=by rw[aif]
theorem Ab {B n:Nat} (h:aX B n):(aj n).length<=B / 32+1:=by refine cU _ _ ?_;rw[Xy];exact afD h (afz (by decide) (by omega))
theorem Hu {N B n:Nat} (hN:1000<=N) (hB:B<=31000) (h:aX B n):f7 N (aj n):=by have:=Ab h;exact⟨by omega,by omega⟩
theorem bX {A B n:Nat} (h:aX A n) (hAB:A<=B):aX B n:=afD h (afz (by decide) hAB)
theorem dJ {A B m n:Nat} (h:aX A m) (g:aX B n):aX (A+B) (m*n):=by unfold aX; rw[afx]; exact aiA h g
theorem vy {A m:Nat} (h:aX A m) (s:Nat):aX (A+s) (m*2 ^ s):=by unfold aX; rw[afx]; exact af2 h (afy s)
theorem wI {A m n:Nat} (h:aX A m) (g:aX A n):aX (A+1) (m+n):=by unfold aX at *; rw[afv]; omega
theorem lV {A m n:Nat} (h:aX A m) (g:n<=m):aX A n:=agV g h
theorem Cq {N B n s:Nat} (hN:1000<=N) (hB:B+s<=31000) (h:aX B n):XJ N n s:=by have h1:=Ab h;exact⟨by omega,by omega,by omega,Hu hN hB (vy h s)⟩
def exK (z:Int × Int) (k:Int->Bool->List Int->Bool):Bool:=k z.1 (decide (z.2<0)) (aj z.2.natAbs)
def yP (x y:Int × Int):Int × Int:=(x.1+y.1,x.2*y.2)
def SF (x:Int × Int):Int × Int:=(x.1,-x.2)
def sB (x:Int × Int) (e:Int):Int:=x.2*2 ^ (x.1 - e).toNat
def Jr (x y:Int × Int):Int × Int:=if x.2=0 then y else if y.2=0 then x else(min x.1 y.1,sB x (min x.1 y.1)+sB y (min x.1 y.1))
def Ex (E B:Nat) (x:Int × Int):Prop:=-(E:Int)<=x.1/\x.1<=E/\aX B x.2.natAbs
def xl (z:Int):Int:=if z=0 then 0 else if z<0 then -1 else 1
def ar:List Int->Nat
 | []=>0
 | x::r=>x.toNat+18446744073709551616*ar r
def InWq (m:List Int):Prop:=∀ x ∈ m,0<=x/\x<18446744073709551616
def ae (n:Nat):List Int:=if h:n=0 then[]else((n%18446744073709551616:Nat):Int)::ae (n / 18446744073709551616)
termination_by n
decreasing_by omega
theorem bw:ae 0=[]:=by rw[ae]; simp
theorem b_ {n:Nat} (h:n ≠ 0):ae n=((n%18446744073709551616:Nat):Int)::ae (n / 18446744073709551616):=by rw[ae]; simp[h]
theorem bb:∀ n,InWq (ae n):=by
 intro n;induction n using Nat.strongRecOn with
 | ind n ih=>
  by_cases h:n=0
  ·subst h; rw[bw]; intro x hx; cases hx
  ·rw[b_ h];intro x hx;rcases List.mem_cons.1 hx with rfl | hx
   ·omega
   ·exact ih (n / 18446744073709551616) (by omega) x hx
theorem aF:∀ n,ar (ae n)=n:=by
 intro n;induction n using Nat.strongRecOn with
 | ind n ih=>
  by_cases h:n=0
  ·subst h; rw[bw]; rfl
  ·rw[b_ h,ar,ih (n / 18446744073709551616) (by omega),afo];omega
theorem no (a b:List Int):ar (a++b)=ar a+18446744073709551616 ^ a.length*ar b:=by
 induction a with
 | nil=>simp[ar]
 | cons x r ih=>
  rw[ahb,ar,ih,ar,afW,afv,afB,afn (18446744073709551616 ^ r.length) 18446744073709551616,aft];omega
theorem InWq.take {m:List Int} (h:InWq m) (n:Nat):InWq (m.take n):=λx hx=>h x (ah9 hx)
theorem InWq.drop {m:List Int} (h:InWq m) (n:Nat):InWq (m.drop n):=λx hx=>h x (ah8 hx)
theorem InWq.cons {x:Int} {m:List Int} (h:InWq (x::m)):(0<=x/\x<18446744073709551616)/\InWq m:=⟨h x (by simp),λy hy=>h y (by simp[hy])⟩
theorem InWq.at {m:List Int} (h:InWq m) {i:Nat}:0<=m.getD i 0/\m.getD i 0<18446744073709551616:=by
 rw[List.getD_eq_getElem?_getD];by_cases hi:i<m.length
 ·rw[List.getElem?_eq_getElem hi]; exact h _ (agv hi)
 ·rw[List.getElem?_eq_none (by omega)]; exact⟨by decide,by decide⟩
theorem iL:∀{m:List Int},InWq m->ar m<18446744073709551616 ^ m.length
 | [],_=>by simp[ar]
 | x::r,h=>by have ih:=iL h.cons.2;have hx:=h.cons.1;rw[ar,afW,afv];have:ar r+1<=18446744073709551616 ^ r.length:=ih;have:=afm 18446744073709551616 this;omega
theorem Al:∀{m:List Int},InWq m->(∀ x,m.getLast? = some x->x ≠ 0)->ae (ar m)=m
 | [],_,_=>bw
 | [x],h,hl=>by
  have hx:=h.cons.1;have h0:x ≠ 0:=hl x rfl;have e:ar [x]=x.toNat:=by simp[ar]
  rw[e,b_ (by omega),afO (by omega),bw,afu (by omega),ahJ hx.1]
 | x::y::r,h,hl=>by
  have hx:=h.cons.1;have ih:=Al h.cons.2 (λz hz=>hl z (by rw[List.getLast?_cons_cons]; exact hz));have hne:ar (y::r) ≠ 0:=by intro h0;rw[h0,bw]at ih; cases ih
  have e1:ar (x::y::r)=x.toNat+18446744073709551616*ar (y::r):=rfl;rw[e1,b_ (by omega)];have e2:(x.toNat+18446744073709551616*ar (y::r))%18446744073709551616=x.toNat:=by omega
  have e3:(x.toNat+18446744073709551616*ar (y::r)) / 18446744073709551616=ar (y::r):=by omega
  rw[e2,e3,ih,ahJ hx.1]
theorem zD {m:List Int} {i:Nat} (hi:i<m.length):ar (m.take (i+1))=ar (m.take i)+18446744073709551616 ^ i*(m.getD i 0).toNat:=by rw[agD hi,no,af0,agz (by omega),List.getD_eq_getElem?_getD,List.getElem?_eq_getElem hi];simp[ar]
theorem zC (n:Nat):ar (List.replicate n 0)=0:=by
 induction n with
 | zero=>rfl
 | succ n ih=>rw[af5,ar,ih]; rfl
def dlq (S:Nat):Nat->List Int
 | 0=>[]
 | n+1=>dlq S n++[((S / 18446744073709551616 ^ n%18446744073709551616:Nat):Int)]
theorem ak (S:Nat):∀ n,(dlq S n).length=n
 | 0=>rfl
 | n+1=>by simp[dlq,ak S n]
theorem gQ (S:Nat):∀ n,InWq (dlq S n)
 | 0=>λx hx=>by cases hx
 | n+1=>λx hx=>by
  rcases List.mem_append.1 hx with h | h
  ·exact gQ S n x h
  ·simp only[ain]at h;subst h;omega
theorem pV (S:Nat):∀ n,ar (dlq S n)=S%18446744073709551616 ^ n
 | 0=>by simp[dlq,ar,ahV]
 | n+1=>by rw[dlq,no,ak,pV S n,afv,aid];simp only[ar,afo,agF,afR]
theorem ub (S n m:Nat) (h:n<m):(dlq S n++List.replicate (m - n) 0).set n ((S / 18446744073709551616 ^ n%18446744073709551616:Nat):Int)=dlq S (n+1)++List.replicate (m - (n+1)) 0:=by
 rw[ahw _ _ (by rw[ak]; exact afw _),ak,afT];have:m - n=(m - (n+1))+1:=by omega
 rw[this,af5];simp[dlq]
theorem mi {S n:Nat} (h:S<18446744073709551616 ^ n):ae (ar (dlq S n))=ae S:=by rw[pV,afu h]
theorem aN {m:List Int} (i:Nat):ar (m.take (i+1))=ar (m.take i)+18446744073709551616 ^ i*(m.getD i 0).toNat:=by
 by_cases h:i<m.length
 ·exact zD h
 ·rw[eP (by omega),afH (by omega),afH (by omega)]; simp
theorem qv (b:List Int):∀ n,ar (b.take (bZ b n))=ar (b.take n)
 | 0=>rfl
 | n+1=>by
  unfold bZ;split
  ·rename_i h;rw[qv b n,aN,h]; simp
  ·rfl
theorem xn {b:List Int} (hb:InWq b):b.take (bZ b b.length)=ae (ar b):=by have h1:=qv b b.length;rw[af3]at h1;rw[<- h1,Al (hb.take _) (so b b.length (afw _))]
theorem dc (T A i:Nat):(T+18446744073709551616 ^ i*A) / 18446744073709551616 ^ i=T / 18446744073709551616 ^ i+A:=agh _ _ (agt (by decide))
theorem Gm (m:List Int) (i:Nat):ar m=ar (m.take i)+18446744073709551616 ^ (m.take i).length*ar (m.drop i):=by rw[<- no,ah1]
theorem bL (m:List Int) (i:Nat):∃ R,ar m=ar (m.take i)+18446744073709551616 ^ i*R:=by
 by_cases h:i<=m.length
 ·refine⟨ar (m.drop i),?_⟩;have:=Gm m i
  rwa [af0,agz h]at this
 ·exact⟨0,by rw[afH (by omega)]; simp⟩
theorem aU {m:List Int} (h:InWq m) (i:Nat):ar (m.take i)<18446744073709551616 ^ i:=by
 have h1:=iL (h.take i);have h2:(m.take i).length<=i:=by simp; omega
 exact afD h1 (afz (by decide) h2)
theorem iS {S T R i:Nat} (h:S=T+18446744073709551616 ^ (i+1)*R):S / 18446744073709551616 ^ i%18446744073709551616=T / 18446744073709551616 ^ i%18446744073709551616:=by rw[h,afv,aft,dc,agC]
theorem ID (i:Nat):0<18446744073709551616 ^ i:=agt (by decide)
theorem Cw {P A B x y o R1 R2 D a b:Nat} (hA:A<P) (hB:B<P) (ho:o=if A<B then 1 else 0) (h1:a=A+P*x+P*18446744073709551616*R1) (h2:b=B+P*y+P*18446744073709551616*R2) (hD:(D:Int)=(a:Int) - (b:Int)) :
  ((D / P:Nat):Int)=(x:Int) - (y:Int) - (o:Int)+18446744073709551616*((R1:Int) - (R2:Int)):=by
 have he:∃ e:Nat,e<P/\(e:Int)=(A:Int) - (B:Int)+(P:Int)*(o:Int):=by
  rw[ho];split
  ·exact⟨A+P - B,by omega,by omega⟩
  ·exact⟨A - B,by omega,by omega⟩
 obtain⟨e,he1,he2⟩:=he;refine AJ (e:=e) ?_ he1;have e1:(a:Int)=A+(P:Int)*x+18446744073709551616*((P:Int)*R1):=by rw[h1,aft,afP]; simp
 have e2:(b:Int)=B+(P:Int)*y+18446744073709551616*((P:Int)*R2):=by rw[h2,aft,afP]; simp
 have e3:(P:Int)*((x:Int) - (y:Int) - (o:Int)+18446744073709551616*((R1:Int) - (R2:Int)))=(P:Int)*x - (P:Int)*y - (P:Int)*o+(18446744073709551616*((P:Int)*R1) - 18446744073709551616*((P:Int)*R2)):=by rw[Int.mul_add,ahK,ahK,Int.mul_left_comm,ahK,ahK]
 rw[hD,e1,e2,e3,he2];omega
theorem dC {x y:Nat} (h:x<=y):(ae x).length<=(ae y).length:=by
 induction y using Nat.strongRecOn generalizing x with
 | ind y ih=>
  by_cases hx:x=0
  ·subst hx; rw[bw]; simp
  ·rw[b_ hx,b_ (by omega:y ≠ 0)];simp only[afW];have:=ih (y / 18446744073709551616) (by omega) (x:=x / 18446744073709551616) (ahD h);omega
theorem sx:∀(w X:Nat),dlq (18446744073709551616 ^ w*X) w=List.replicate w 0:=by
 intro w;have key:∀ n,n<=w -> ∀ X,dlq (18446744073709551616 ^ w*X) n=List.replicate n 0:=by
  intro n;induction n with
  | zero=>intro _ X; rfl
  | succ n ih=>
   intro hn X;rw[dlq,ih (by omega),agY];have e:18446744073709551616 ^ w*X=18446744073709551616 ^ n*(18446744073709551616*(18446744073709551616 ^ (w - n - 1)*X)):=by rw[<- aft,<- aft,<- afv,<- afx];congr 2; omega
   rw[e,afV _ (ID n),ait];rfl
 exact key w (afw _)
theorem gd:∀(j n:Nat),n<18446744073709551616 ^ j->(ae n).length<=j
 | 0,n,h=>by
  have:n=0:=by simp at h; exact h
  subst this; rw[bw]; exact afw _
 | j+1,n,h=>by
  by_cases h0:n=0
  ·subst h0; rw[bw]; simp
  ·rw[b_ h0,afW];have:n / 18446744073709551616<18446744073709551616 ^ j:=ahk (by rw[afv]at h; omega);have:=gd j _ this;omega
theorem Gl (V x Bk bk i k:Nat):V%18446744073709551616 ^ (i+k+1)+x*(Bk+18446744073709551616 ^ k*bk)*18446744073709551616 ^ i=(V%18446744073709551616 ^ (i+k)+x*Bk*18446744073709551616 ^ i)+18446744073709551616 ^ (i+k)*(V / 18446744073709551616 ^ (i+k)%18446744073709551616+x*bk):=by rw[Nat.mod_pow_succ,afx];grind
theorem E6 (V x Bk bk i k:Nat):(V%18446744073709551616 ^ (i+k+1)+x*(Bk+18446744073709551616 ^ k*bk)*18446744073709551616 ^ i) / 18446744073709551616 ^ (i+k+1)=((V%18446744073709551616 ^ (i+k)+x*Bk*18446744073709551616 ^ i) / 18446744073709551616 ^ (i+k)+V / 18446744073709551616 ^ (i+k)%18446744073709551616+x*bk) / 18446744073709551616:=by rw[Gl,afv,<- afr,agh _ _ (agt (by decide)),afY]
theorem Du (V x Bk bk i k R:Nat):(V+x*(Bk+18446744073709551616 ^ k*bk+18446744073709551616 ^ (k+1)*R)*18446744073709551616 ^ i) / 18446744073709551616 ^ (i+k)%18446744073709551616=((V%18446744073709551616 ^ (i+k)+x*Bk*18446744073709551616 ^ i) / 18446744073709551616 ^ (i+k)+V / 18446744073709551616 ^ (i+k)%18446744073709551616+x*bk)%18446744073709551616:=by
 have e:V+x*(Bk+18446744073709551616 ^ k*bk+18446744073709551616 ^ (k+1)*R)*18446744073709551616 ^ i=(V%18446744073709551616 ^ (i+k+1)+x*(Bk+18446744073709551616 ^ k*bk)*18446744073709551616 ^ i)+18446744073709551616 ^ (i+k+1)*(V / 18446744073709551616 ^ (i+k+1)+x*R):=by
  have h:=af_ V (18446744073709551616 ^ (i+k+1));have h2:18446744073709551616 ^ (i+k+1)=18446744073709551616 ^ (k+1)*18446744073709551616 ^ i:=by rw[<- afx]; congr 1; omega
  generalize V / 18446744073709551616 ^ (i+k+1)=q at *;generalize V%18446744073709551616 ^ (i+k+1)=r at *;rw[<- h,h2];grind
 rw[iS e,Gl,agh _ _ (agt (by decide)),afY]
theorem KF {V x Bk i k:Nat} (hx:x<18446744073709551616) (hB:Bk<18446744073709551616 ^ k):(V%18446744073709551616 ^ (i+k)+x*Bk*18446744073709551616 ^ i) / 18446744073709551616 ^ (i+k)<18446744073709551616:=by
 rw[afs (agt (by decide))];have h1:V%18446744073709551616 ^ (i+k)<18446744073709551616 ^ (i+k):=afA _ (agt (by decide));have h2:x*Bk<=18446744073709551615*18446744073709551616 ^ k:=af7 (by omega) (by omega);have h3:x*Bk*18446744073709551616 ^ i<=18446744073709551615*18446744073709551616 ^ (i+k):=by
  have:=afm (18446744073709551616 ^ i) h2
  rwa [aft 18446744073709551615,<- afx,ahi k i]at this
 omega
theorem sw (S:Nat) {L i:Nat} (h:i<L):(dlq S L).getD i 0=((S / 18446744073709551616 ^ i%18446744073709551616:Nat):Int):=by
 induction L with
 | zero=>omega
 | succ L ih=>
  show((dlq S L)++[_]).getD i 0=_;rw[List.getD_eq_getElem?_getD];by_cases hi:i<L
  ·rw[List.getElem?_append_left (by rw[ak]; exact hi),<- List.getD_eq_getElem?_getD,ih hi]
  ·have:i=L:=by omega
   subst this;rw[List.getElem?_append_right (by rw[ak]; exact afw _),ak,afT]; rfl
theorem pW {b:List Int} {k:Nat}:ar (b.take (k+1))=ar (b.take k)+18446744073709551616 ^ k*(b.getD k 0).toNat:=aN k
theorem yL (U V L p:Nat) (h:p<L):(dlq U p++(dlq V L).drop p).set p ((U / 18446744073709551616 ^ p%18446744073709551616:Nat):Int)=dlq U (p+1)++(dlq V L).drop (p+1):=by rw[dr (by rw[ak]; exact h),bu _ _ _ _ _ (by rw[ak])];show _=(dlq U p++[_])++_;rw[afC]; rfl
theorem Fr (U V L p:Nat) (h:p<L):(dlq U p++(dlq V L).drop p).getD p 0=((V / 18446744073709551616 ^ p%18446744073709551616:Nat):Int):=by rw[dr (by rw[ak]; exact h),ci (by rw[ak]),sw V h]
theorem yK (U V L p:Nat) (h:p<=L):(dlq U p++(dlq V L).drop p).length=L:=by simp[ak]; omega
theorem HC {U L p:Nat} (hU:U<18446744073709551616 ^ p) (h:p<=L) {V:Nat} (hV:V<18446744073709551616 ^ p):dlq U p++(dlq V L).drop p=dlq U L:=by
 induction L with
 | zero=>
  have:p=0:=by omega
  subst this; rfl
 | succ L ih=>
  by_cases hp:p=L+1
  ·subst hp; rw[af6 (by rw[ak]; omega),afU]
  ·have hpL:p<=L:=by omega
   have e:∀ X,X<18446744073709551616 ^ p->dlq X (L+1)=dlq X L++[0]:=by intro X hX;show dlq X L++[((X / 18446744073709551616 ^ L%18446744073709551616:Nat):Int)]=_;rw[afO (afD hX (afz (by decide) hpL))]; rfl
   rw[e V hV,e U hU,agm (by rw[ak]; exact hpL),<- afC,ih hpL]
theorem sL {a:List Int} (ha:InWq a) (i:Nat):ar (a.take i)<18446744073709551616 ^ i:=aU ha i
theorem sJ {x y i j:Nat} (hx:x<18446744073709551616 ^ i) (hy:y<18446744073709551616 ^ j):x*y<18446744073709551616 ^ (i+j):=by rw[afx];exact aiA hx hy
def lC (N:Nat) (l:List Int):Prop:=l.length+3<N/\l.length<=1099511627776
theorem A6 {N:Nat} (b:List Int) (hN:b.length<N) (hs:b.length<9223372036854775807) (k:Kz3):xf N b k=k (bZ b b.length):=by
 (unfold xf; rw[ac]; unfold Tw)
 have key:∀ n,n<=b.length -> ∀ M,n<M->ah M (wl N b λZS=>((decide (0<=ZS/\ZS<=(((List.length b):Nat):Int)))&&(k ((Int.toNat ZS) - 0)))) (n:Int)=k (bZ b n):=by
  intro n;induction n with
  | zero=>
   intro _ M hM;cases M with
   | zero=>omega
   | succ M=>
    show wl N b _ ((0:Nat):Int) _=_;simp only[wl,bZ];rw[afj (by omega:¬((0:Nat):Int)>0),show(false==true)=false from rfl,afk,afi (by omega),agq];rfl
  | succ n ih=>
   intro hn M hM;cases M with
   | zero=>omega
   | succ M=>
    show wl N b _ ((n+1:Nat):Int) (ah M _)=_;have e:Int.toNat (((n+1:Nat):Int) - 1)=n:=by omega
    have e2:((n+1:Nat):Int) - 1=(n:Int):=by omega
    simp only[wl,e];rw[afi (by omega:((n+1:Nat):Int)>0),show(true==true)=true from rfl,afl,aa afg,aa afh,aa (afi (by omega)),aa afg,e2,ih (by omega) M (by omega),oE];by_cases h0:b.getD n 0=0
    ·have:(b.getD n 0==0)=true:=by simpa using h0
     rw[this,if_pos h0]; rfl
    ·have:(b.getD n 0==0)=false:=by simpa using h0
     rw[this,if_neg h0,afk,afi (by omega),agq];rfl
 exact key b.length (afw _) N hN
theorem kA {N:Nat} (b:List Int) (hb:InWq b) (hN:b.length<N) (hs:b.length<9223372036854775807) (k:Kz6) :
  (xf N b λl=>(decide (0+l<=b.length))&&k (List.take l (List.drop 0 b)))=k (ae (ar b)):=by
 rw[A6 b hN hs,agN,xn hb];have:=jX b b.length;rw[afi (by omega)]; rfl
theorem um {N:Nat} (hN:1000<=N) (n:Nat) (hn:n<18446744073709551616) (k:Kz6):jT N (n:Int) k=k (ae n):=by
 unfold jT zU;have hw:InWq [(n:Int)]:=by intro x hx;simp only[agJ,aho,or_false]at hx;subst hx; omega
 have hv:ar [(n:Int)]=n:=by simp only[ar]; omega
 have:=kA (N:=N) [(n:Int)] hw (by simp; omega) (by simp) k;rw[hv]at this;exact this
theorem xY {N:Nat} (l:List Int) (h:l.length<=1099511627776) (k:Kz6):rG N l k=k l:=by unfold rG Sl;rw[aga,afi (by omega),agq]
theorem nA (N:Nat) (l:List Int) (i:Nat) (hi:i<9223372036854775807) (k:Kz2):zg N l (i:Int) k=k (l.getD i 0):=by
 unfold zg Sr;by_cases h:i<l.length
 ·rw[afi (by omega:(i:Int)<((l.length:Nat):Int)),afl,aa afh,afo]
 ·rw[afj (by omega:¬(i:Int)<((l.length:Nat):Int)),afk,eP (by omega)]
theorem ny (N:Nat) {x y c:Int} {a b d:Nat} (hx:x=(a:Int)) (hy:y=(b:Int)) (hz:c=(d:Int)) (hc:d<=1) (k:Ky3):sQ3 N x y c k=k (((a+b+d)%18446744073709551616:Nat):Int) (((a+b+d) / 18446744073709551616:Nat):Int):=by subst hx hy hz;show(decide (Int.toNat (d:Int)<=1)&&_)=_;rw[afo,afi hc]; rfl
theorem xV (N:Nat) {x y c:Int} {a b d:Nat} (hx:x=(a:Int)) (hy:y=(b:Int)) (hz:c=(d:Int)) (hc:d<=1) (k:Ky3):sQ5 N x y c k=k (((a+18446744073709551616 - b - d)%18446744073709551616:Nat):Int) (if a<b+d then 1 else 0):=by
 subst hx hy hz;show(decide (Int.toNat (d:Int)<=1)&&_)=_;rw[afo,afi hc];show k _ (cond (decide (a<b+d)) 1 0)=_;by_cases h:a<b+d
 ·rw[afi h,if_pos h]; rfl
 ·rw[afj h,if_neg h]; rfl
theorem Q4 (a b:Nat):imm true (a:Int) (b:Int)=((max a b:Nat):Int):=by
 unfold imm; simp only[afl];by_cases h:(b:Int)>a
 ·rw[afi h,afl]; omega
 ·rw[afj h,afk]; omega
theorem OX {N:Nat} (a b:List Int) (ha:InWq a) (hb:InWq b) (hNa:lC N a) (hNb:lC N b) (k:Kz6):yi N a b k=k (ae (ar a+ar b)):=by
 (unfold yi; rw[ac]; unfold xx)
 obtain⟨a1,a2⟩:=hNa;obtain⟨b1,b2⟩:=hNb;rw[Q4]
 let L:=max a.length b.length
 have hLa:a.length<=L:=Nat.le_max_left _ _;have hLb:b.length<=L:=Nat.le_max_right _ _;have hLN:L+3<N:=by simp only[L]; omega
 have hLs:L<=1099511627776:=by simp only[L]; omega
 show(af .i64 ((L:Int)+1)&&_)=_;have eL:Int.toNat ((L:Int)+1)=L+1:=by omega
 rw[aa afg,aa (bI (by omega) (by omega) (by omega) (by omega)),eL]
 let S:=ar a+ar b
 let T:=λi=>ar (a.take i)+ar (b.take i)
 refine aJ (λi=>(((T i / 18446744073709551616 ^ i:Nat):Int),(i:Int),dlq S i++List.replicate (L+1 - i) 0)) L (by simp[T,ar,dlq]) (by omega) (λi hi K=>?_) (λK=>?_)
 ·have hx:=ha.at (i:=i);have hy:=hb.at (i:=i);have hT:T (i+1)=T i+18446744073709551616 ^ i*((a.getD i 0).toNat+(b.getD i 0).toNat):=by simp only[T,aN,afB]; omega
  have hq:T (i+1) / 18446744073709551616 ^ i=T i / 18446744073709551616 ^ i+((a.getD i 0).toNat+(b.getD i 0).toNat):=by rw[hT,dc]
  have hc:T i / 18446744073709551616 ^ i<=1:=by
   have h1:=aU ha i;have h2:=aU hb i;have h3:T i<18446744073709551616 ^ i*2:=by simp only[T]; omega
   have:=(afs (agt (n:=i) (by decide:0<18446744073709551616))).2 (by rw[afn]; exact h3:T i<2*18446744073709551616 ^ i);omega
  have hdiv:T (i+1) / 18446744073709551616 ^ (i+1)=T (i+1) / 18446744073709551616 ^ i / 18446744073709551616:=by rw[afv,afr]
  have hdig:S / 18446744073709551616 ^ i%18446744073709551616=T (i+1) / 18446744073709551616 ^ i%18446744073709551616:=by obtain⟨R1,h1⟩:=bL a (i+1);obtain⟨R2,h2⟩:=bL b (i+1);refine iS (R:=R1+R2) ?_;simp only[S,T];rw[afB]; omega
  have hset:=ub S i (L+1) (by omega);have hlen:(dlq S i++List.replicate (L+1 - i) 0).length=L+1:=by simp[ak]; omega
  simp only[nu];rw[afi (by omega:(i:Int)<((max a.length b.length:Nat):Int)),afl,nA N a i (by omega),nA N b i (by omega),ny N (a:=(a.getD i 0).toNat) (b:=(b.getD i 0).toNat) (d:=T i / 18446744073709551616 ^ i) (by omega) (by omega) rfl hc,hlen,aa afh,aa (afi (by omega)),aa afg,afo];have e1:(a.getD i 0).toNat+(b.getD i 0).toNat+T i / 18446744073709551616 ^ i=T (i+1) / 18446744073709551616 ^ i:=by rw[hq]; omega
  rw[e1,<- hdig,<- hdiv,hset];rfl
 ·simp only[nu];rw[afj (by omega:¬(L:Int)<((max a.length b.length:Nat):Int)),afk];have hT:T L=S:=by simp only[T,S]; rw[afH hLa,afH hLb]
  have hS:S<18446744073709551616 ^ (L+1):=by have h1:=aU ha L;have h2:=aU hb L;rw[afH hLa]at h1;rw[afH hLb]at h2;rw[afv];simp only[S]; omega
  have hlen:(dlq S L++List.replicate (L+1 - L) 0).length=L+1:=by simp[ak]
  have hcl:S / 18446744073709551616 ^ L<18446744073709551616:=by rw[afs (agt (by decide)),afn,<- afv]; exact hS
  have e2:((T L / 18446744073709551616 ^ L:Nat):Int)=((S / 18446744073709551616 ^ L%18446744073709551616:Nat):Int):=by rw[hT,afu hcl]
  have hset:=ub S L (L+1) (by omega);rw[e2,afo,hset,hlen,aa afh,aa (afi (by omega)),afT,afX,afU,
   kA _ (gQ S _) (by rw[ak]; omega) (by rw[ak]; omega),mi hS]
theorem nz {N:Nat} (a b:List Int) (ha:InWq a) (hb:InWq b) (hle:ar b<=ar a) (hN:lC N a) (k:Kz6):zi N a b k=k (ae (ar a - ar b)):=by
 obtain⟨hN1,hN2⟩:=hN
 (unfold zi; rw[ac]; unfold Nk)
 rw[aa (bI (by omega) (by omega) (by omega) (by omega)),afo]
 let D:=ar a - ar b
 let bo:=λi=>if ar (a.take i)<ar (b.take i)then(1:Nat)else 0
 refine aJ (λi=>(((bo i:Nat):Int),(i:Int),dlq D i++List.replicate (a.length - i) 0)) a.length (by simp[bo,ar,dlq]) (by omega) (λi hi K=>?_) (λK=>?_)
 ·have hx:=ha.at (i:=i);have hy:=hb.at (i:=i);have hA:=aN (m:=a) i;have hB:=aN (m:=b) i;have hAl:=aU ha i;have hBl:=aU hb i;have hset:=ub D i a.length (by omega);have hl:(dlq D i++List.replicate (a.length - i) 0).length=a.length:=by simp[ak]; omega
  obtain⟨R1,h1⟩:=bL a (i+1);obtain⟨R2,h2⟩:=bL b (i+1);have hD:(D:Int)=(ar a:Int) - (ar b:Int):=by simp only[D]; omega
  have hPs:18446744073709551616 ^ (i+1)=18446744073709551616 ^ i*18446744073709551616:=afv ..;have hbo:bo i<=1:=by simp only[bo]; split <;> omega
  have hbs:bo (i+1)=if (a.getD i 0).toNat<(b.getD i 0).toNat+bo i then 1 else 0:=by simp only[bo,hA,hB];exact oB _ _ _ _ _ hAl hBl
  have hq:((D / 18446744073709551616 ^ i:Nat):Int)=((a.getD i 0).toNat:Int) - ((b.getD i 0).toNat:Int) - (bo i:Int)+18446744073709551616*((R1:Int) - (R2:Int)):=by rw[hA,hPs]at h1;rw[hB,hPs]at h2;exact Cw hAl hBl rfl h1 h2 hD
  have hdig:((D / 18446744073709551616 ^ i%18446744073709551616:Nat):Int)=(((a.getD i 0).toNat:Int) - ((b.getD i 0).toNat:Int) - (bo i:Int))%18446744073709551616:=by rw[Int.natCast_emod,hq];exact Int.add_mul_emod_self_left _ _ _
  simp only[l6];rw[afi (by omega:(i:Int)<a.length),afl,aa afh,nA N b i (by omega),afo,xV N (a:=(a.getD i 0).toNat) (b:=(b.getD i 0).toNat) (d:=bo i) (by omega) (by omega) rfl hbo,hl,aa afh,aa (afi (by omega)),aa afg];have e1:(((((a.getD i 0).toNat+18446744073709551616 - (b.getD i 0).toNat - bo i)%18446744073709551616:Nat)):Int)=((D / 18446744073709551616 ^ i%18446744073709551616:Nat):Int):=by rw[hdig]; omega
  have e2:(if (a.getD i 0).toNat<(b.getD i 0).toNat+bo i then(1:Int)else 0)=((bo (i+1):Nat):Int):=by rw[hbs]; split <;> rfl
  rw[e1,e2,hset];rfl
 ·simp only[l6];rw[afj (by omega:¬(a.length:Int)<a.length),afk,afT,afX,afU];have hS:D<18446744073709551616 ^ a.length:=by have:=iL ha; simp only[D]; omega
  rw[kA _ (gQ D _) (by rw[ak]; omega) (by rw[ak]; omega),mi hS]
theorem B6 {N:Nat} (a b:List Int) (ha:InWq a) (hb:InWq b) (hl:a.length=b.length) (hs:a.length<9223372036854775807) (k:Kz2) :
  ∀ n,n<=a.length -> ∀ M,n<M->ah M (wi N a b (λt4=>k t4) (k 0)) ((n:Int) - 1)=k (dM (ar (a.take n)) (ar (b.take n))):=by
 intro n;induction n with
 | zero=>
  intro _ M hM;cases M with
  | zero=>omega
  | succ M=>
   show wi N a b _ _ ((0:Nat) - 1:Int) _=_;simp[wi,dM,ar]
 | succ n ih=>
  intro hn M hM;cases M with
  | zero=>omega
  | succ M=>
   show wi N a b _ _ (((n+1:Nat):Int) - 1) (ah M _)=_;have e:(((n+1:Nat):Int) - 1)=(n:Int):=by omega
   have hx:=ha.at (i:=n);have hy:=hb.at (i:=n);have hA:=aN (m:=a) n;have hB:=aN (m:=b) n;have hAl:=aU ha n;have hBl:=aU hb n;rw[e];simp only[wi,afo];rw[hA,hB,afi (by omega:(n:Int)>=0),afl,aa afh,aa afh,aa afh,aa afh,aa afg,ih (by omega) M (by omega)];by_cases h0:a.getD n 0=b.getD n 0
   ·rw[show(a.getD n 0 != b.getD n 0)=false by simpa using h0,afk,h0,E9]
   ·rw[show(a.getD n 0 != b.getD n 0)=true by simpa using h0,afl];by_cases h1:a.getD n 0<b.getD n 0
    ·rw[afi h1,afl,NV hAl (by omega)]
    ·rw[afj h1,afk,NU hBl (by omega)]
theorem iW {N:Nat} (x y:Nat) (hx:lC N (ae x)) (hy:lC N (ae y)) (k:Kz2):Dc N (ae x) (ae y) k=k (dM x y):=by
 (unfold Dc; rw[ac]; unfold MZ)
 obtain⟨x1,x2⟩:=hx;obtain⟨y1,y2⟩:=hy;by_cases h:(ae x).length=(ae y).length
 ·have e:(((ae x).length:Int) != (ae y).length)=false:=by rw[h]; simp
  rw[e,afk,aa afg,B6 (ae x) (ae y) (bb x) (bb y) h (by omega) k _ (afw _) N (by omega),af3,h,af3,aF,aF]
 ·have e:(((ae x).length:Int) != (ae y).length)=true:=by simp; omega
  rw[e,afl];by_cases h1:(ae x).length<(ae y).length
  ·rw[afi (by omega),afl];have:x<y:=by
    rcases agb x y with h2 | h2
    ·exact h2
    ·have:=dC h2; omega
   unfold dM; rw[if_pos this]
  ·rw[afj (by omega),afk];have:¬ x<=y:=λh2=>by have:=dC h2; omega
   unfold dM; rw[if_neg (by omega),if_neg (by omega)]
def sD (z:Int) (k:Ky2):Bool:=k (decide (z<0)) (ae z.natAbs)
theorem pM (n:Nat):decide (((ae n).length:Int)>0)=decide (n ≠ 0):=by
 by_cases h:n=0
 ·subst h; rw[bw]; simp
 ·rw[b_ h,afW,afi (by omega),afi h]
theorem Gw (g:Bool) (n:Nat) (k:Ky2):k (sg g n) (ae n)=sD (bc g n) k:=by
 unfold sD bc sg;cases g
 ·simp only[af9,afS,ahY,agf];rw[afj (by omega)]
 ·simp only[agU,agq,ahZ,agf];congr 1;by_cases h:n=0
  ·subst h; rfl
  ·rw[afi h,afi (by omega)]
theorem Pn (g:Bool) (n:Nat) (k:Ky2):cond (g==true) (k (decide (((ae n).length:Int)>0)) (ae n)) (k false (ae n))=sD (bc g n) k:=by rw[pM,<- Gw];cases g <;> rfl
theorem Ih {N:Nat} (g b:Bool) (n:Nat) (k:Ky2):Ee N g (ae n) b (λcr=>k cr (ae n))=sD (bc g n) k:=Pn g n k
theorem nV {N:Nat} (g b:Bool) (l:List Int) (n:Nat) (k:Ky2):Mm N g (ae n) b l (λcr=>k cr (ae n))=sD (bc g n) k:=Pn g n k
theorem IX (g1 g2:Bool) (n1 n2:Nat) (k:Ky2) :
  cond (g1==g2) (sD (bc g2 (n1+n2)) k) (cond (decide (dM n1 n2>=0)) (sD (bc g1 (n1 - n2)) k) (sD (bc g2 (n2 - n1)) k))=sD (bc g1 n1+bc g2 n2) k:=by
 rw[tZ];have key:∀ a b:Int,a=b->sD a k=sD b k:=λa b h=>by rw[h]
 cases g1 <;> cases g2 <;> simp only[bc] <;> by_cases h:n2<=n1 <;> simp only[h,aiu,aim,afl,afk,aha,af9,agU,afS,(by decide:(false==true)=false),(by decide:(true==false)=false)] <;> refine key _ _ ?_ <;> omega
theorem EU (n:Nat):aD .and .u64 (n:Int) 4294967295=((n%4294967296:Nat):Int):=by
 have h:=kg n 32 (by decide);have e1:((2 ^ 32 - 1:Nat):Int)=4294967295:=by decide
 have e2:(2:Nat) ^ 32=4294967296:=by decide
 rw[e1,e2]at h;exact h
theorem VV (p00 p10 p01 p11:Nat):(p11*18446744073709551616+(p10+p01)*4294967296+p00) / 18446744073709551616=p11+(p10+p00 / 4294967296) / 4294967296+((p10+p00 / 4294967296)%4294967296+p01) / 4294967296:=by omega
theorem LO (x y:Nat):x*y=(x / 4294967296)*(y / 4294967296)*18446744073709551616+((x / 4294967296)*(y%4294967296)+(x%4294967296)*(y / 4294967296))*4294967296+(x%4294967296)*(y%4294967296):=by have hx:=af_ x 4294967296;have hy:=af_ y 4294967296;generalize x / 4294967296=a at *;generalize x%4294967296=b at *;generalize y / 4294967296=c at *;generalize y%4294967296=d at *;subst hx hy;grind
theorem xU (N:Nat) {x y:Nat} (hx:x<18446744073709551616) (hy:y<18446744073709551616) (k:Ky3):GE N (x:Int) (y:Int) k=k ((x*y / 18446744073709551616:Nat):Int) ((x*y%18446744073709551616:Nat):Int):=by
 (unfold GE; rw[ac]; unfold MT)
 have fx:Int.fdiv (x:Int) (2 ^ 32)=((x / 4294967296:Nat):Int):=by rw[km]; rfl
 have fy:Int.fdiv (y:Int) (2 ^ 32)=((y / 4294967296:Nat):Int):=by rw[km]; rfl
 rw[EU,EU,fx,fy];have hs:=LO x y;have b0:x / 4294967296<=4294967295:=by omega
 have b1:x%4294967296<=4294967295:=by omega
 have b2:y / 4294967296<=4294967295:=by omega
 have b3:y%4294967296<=4294967295:=by omega
 have m00:=af7 b1 b3;have m10:=af7 b0 b3;have m01:=af7 b1 b2;have m11:=af7 b0 b2;have hh:=VV ((x%4294967296)*(y%4294967296)) ((x / 4294967296)*(y%4294967296)) ((x%4294967296)*(y / 4294967296)) ((x / 4294967296)*(y / 4294967296));rw[<- hs]at hh;rw[<- afF,<- afF,<- afF,<- afF,<- afF];have hlt:x*y<=18446744073709551615*18446744073709551615:=af7 (by omega) (by omega);generalize x*y=P at *;generalize (x%4294967296)*(y%4294967296)=p00 at *;generalize (x / 4294967296)*(y%4294967296)=p10 at *;generalize (x%4294967296)*(y / 4294967296)=p01 at *;generalize (x / 4294967296)*(y / 4294967296)=p11 at *;have t1:IntKind.wrap .u64 (IntKind.wrap .u64 (p10:Int)+Int.fdiv (IntKind.wrap .u64 (p00:Int)) (2 ^ 32))=((p10+p00 / 4294967296:Nat):Int):=by simp only[am,km]; omega
 rw[t1,EU];congr 1
 ·rw[hh];simp only[am,km];omega
theorem A4 (N:Nat) {x y c d:Int} {a b e f:Nat} (hx:x=(a:Int)) (hy:y=(b:Int)) (hc:c=(e:Int)) (hd:d=(f:Int)) (ha:a<18446744073709551616) (hb:b<18446744073709551616) (he:e<18446744073709551616) (hf:f<18446744073709551616) (k:Ky3) :
  lM N x y c d k=k (((a*b+e+f) / 18446744073709551616:Nat):Int) (((a*b+e+f)%18446744073709551616:Nat):Int):=by
 subst hx hy hc hd
 (unfold lM; rw[ac]; unfold vi)
 have hlt:a*b<=18446744073709551615*18446744073709551615:=af7 (by omega) (by omega);rw[xU N ha hb];generalize a*b=P at *;rw[ny N (c:=0) (a:=P%18446744073709551616) (b:=e) (d:=0) rfl rfl rfl (by omega),ny N (c:=0) (a:=(P%18446744073709551616+e+0)%18446744073709551616) (b:=f) (d:=0) rfl rfl rfl (by omega)];congr 1
 ·simp only[am]; omega
 ·omega
theorem H8 {N:Nat} (a b:List Int) (ha:InWq a) (hb:InWq b) (hN:a.length+b.length+2<N) (hs:a.length+b.length<=1099511627776) (k:Kz6):zE N a b k=k (ae (ar a*ar b)):=by
  (unfold zE; rw[ac]; unfold T0)
  by_cases a0:a.length=0
  · have:a=[]:=List.length_eq_zero_iff.1 a0
    subst this;show k []=k (ae (0*ar b));rw[agE,bw]
  by_cases b0:b.length=0
  · have:b=[]:=List.length_eq_zero_iff.1 b0
    subst this;have e:(((a.length:Nat):Int)==0)=false:=by simp; intro h; subst h; simp at a0
    rw[e,show(false==false)=true from rfl,afl];show k []=k (ae (ar a*0));rw[agF,bw]
  have e0:(((a.length:Nat):Int)==0)=false:=by simp; intro h; subst h; simp at a0
  have e1:(((b.length:Nat):Int)==0)=false:=by simp; intro h; subst h; simp at b0
  rw[e0,e1,show(false==false)=true from rfl,afl,afk];have eL:Int.toNat (((a.length:Nat):Int)+((b.length:Nat):Int))=a.length+b.length:=by omega
  rw[aa afg,aa (bI (by omega) (by omega) (by omega) (by omega)),eL]
  let L:=a.length+b.length
  let B:=ar b
  have hB:B<18446744073709551616 ^ b.length:=iL hb;refine aJ (λi=>((i:Int),dlq (ar (a.take i)*B) L)) a.length ?_ (by omega) (λi hi K=>?_) (λK=>?_)
  · show((0:Int),List.replicate L (0:Int))=(((0:Nat):Int),dlq (ar (a.take 0)*B) L)
    have:=sx L 0;rw[agF]at this;rw[ahF,show ar []=0 from rfl,agE,this]; rfl
  · simp only[kV]
    rw[afi (by omega:(i:Int)<a.length),afl,aa afh,afo];have hx:=ha.at (i:=i)
    let V:=ar (a.take i)*B
    let x:=(a.getD i 0).toNat
    let U:=ar (a.take (i+1))*B
    have hU:U=V+x*B*18446744073709551616 ^ i:=by simp only[U,V,x];rw[pW];grind
    have hV:V<18446744073709551616 ^ (i+b.length):=sJ (sL ha i) hB;have hUl:U<18446744073709551616 ^ (i+1+b.length):=sJ (sL ha (i+1)) hB
    let c:=λj=>(V%18446744073709551616 ^ (i+j)+x*ar (b.take j)*18446744073709551616 ^ i) / 18446744073709551616 ^ (i+j)
    refine aJ (λj=>(((c j:Nat):Int),(j:Int),dlq U (i+j)++(dlq V L).drop (i+j))) b.length ?_ (by omega) (λj hj K'=>?_) (λK'=>?_)
    · show((0:Int),(0:Int),dlq V L)=_
      have h0:c 0=0:=by simp only[c,ahF,show ar []=0 from rfl,agF,agE,afR];exact afO (afA _ (agt (by decide)))
      have hlow:dlq U i=dlq V i:=by
        have:∀ n,n<=i->dlq U n=dlq V n:=by
          intro n;induction n with
          | zero=>intro _; rfl
          | succ n ih=>
            intro hn;show dlq U n++[_]=dlq V n++[_];rw[ih (by omega)];congr 3;have:U=V+18446744073709551616 ^ (n+1)*(x*B*18446744073709551616 ^ (i - (n+1))):=by rw[hU,afP,<- afx,show n+1+(i - (n+1))=i by omega]
            exact iS this
        exact this i (afw _)
      have hsp:dlq V i++(dlq V L).drop i=dlq V L:=by
        have:∀ n,i<=n->dlq V i++(dlq V n).drop i=dlq V n:=by
          intro n;induction n with
          | zero=>intro h; have:i=0:=(by omega); subst this; rfl
          | succ n ih=>
            intro h;by_cases hn:i=n+1
            · subst hn; rw[af6 (by rw[ak]; omega),afU]
            · show dlq V i++(dlq V n++[_]).drop i=dlq V n++[_]
              rw[agm (by rw[ak]; omega),<- afC,ih (by omega)]
        exact this L (by simp only[L]; omega)
      rw[h0,afR,hlow,hsp]; rfl
    · have hy:=hb.at (i:=j)
      have hp:i+j<L:=by simp only[L]; omega
      have hlen:=yK U V L (i+j) (by omega);have hget:=Fr U V L (i+j) hp;have hset:=yL U V L (i+j) hp;have hc:=KF (V:=V) (x:=x) (i:=i) (k:=j) (Bk:=ar (b.take j)) (by simp only[x]; omega) (sL hb j);have hstep:=E6 V x (ar (b.take j)) (b.getD j 0).toNat i j;obtain⟨R,hR⟩:=bL b (j+1);have hdig:=Du V x (ar (b.take j)) (b.getD j 0).toNat i j R;rw[<- pW]at hstep hdig;rw[<- hR]at hdig;have hUe:V+x*ar b*18446744073709551616 ^ i=U:=hU.symm;rw[hUe]at hdig;have hxy:x*(b.getD j 0).toNat<=18446744073709551615*18446744073709551615:=af7 (by simp only[x]; omega) (by omega);have eidx:Int.toNat ((i:Int)+(j:Int))=i+j:=by omega
      have hcj:∀ n,c n=(V%18446744073709551616 ^ (i+n)+x*ar (b.take n)*18446744073709551616 ^ i) / 18446744073709551616 ^ (i+n):=λ_=>rfl
      have hax:a.getD i 0=(x:Int):=by simp only[x]; omega
      have hby:b.getD j 0=((b.getD j 0).toNat:Int):=by omega
      have ec1:c (j+1)=(c j+V / 18446744073709551616 ^ (i+j)%18446744073709551616+x*(b.getD j 0).toNat) / 18446744073709551616:=hstep;have ed:U / 18446744073709551616 ^ (i+j)%18446744073709551616=(c j+V / 18446744073709551616 ^ (i+j)%18446744073709551616+x*(b.getD j 0).toNat)%18446744073709551616:=hdig;have hcl:c j<18446744073709551616:=hc;rw[ed]at hset;have vlt:V / 18446744073709551616 ^ (i+j)%18446744073709551616<18446744073709551616:=afA _ (by decide);have hxl:x<18446744073709551616:=by simp only[x]; omega
      have hyl:(b.getD j 0).toNat<18446744073709551616:=by omega
      simp only[kW,afo,eidx,hlen];rw[afi (by omega:(j:Int)<((b.length:Nat):Int)),afl,aa afh,aa afg,aa afg,aa afh,aa (afi (by omega)),A4 N hax hby hget rfl hxl hyl vlt hcl,aa afh,aa (afi (by omega)),aa afg];rw[show i+(j+1)=i+j+1 by omega,<- hset];have ez:x*(b.getD j 0).toNat+V / 18446744073709551616 ^ (i+j)%18446744073709551616+c j=c j+V / 18446744073709551616 ^ (i+j)%18446744073709551616+x*(b.getD j 0).toNat:=by omega
      rw[ez,ec1];rfl
    · simp only[kW]
      rw[afj (by omega:¬(b.length:Int)<b.length),afk];have hlen:=yK U V L (i+b.length) (by simp only[L]; omega);have hset:=yL U V L (i+b.length) (by simp only[L]; omega);have eidx:Int.toNat ((i:Int)+(b.length:Int))=i+b.length:=by omega
      have hLe:i+b.length<L:=by simp only[L]; omega
      have hc:c b.length=U / 18446744073709551616 ^ (i+b.length):=by simp only[c];rw[af3,afu hV,hU]
      have hcl:U / 18446744073709551616 ^ (i+b.length)<18446744073709551616:=by
        rw[afs (agt (by decide))];have:i+1+b.length=i+b.length+1:=by omega
        rw[this,afv]at hUl;omega
      have ew:((c b.length:Nat):Int)=((U / 18446744073709551616 ^ (i+b.length)%18446744073709551616:Nat):Int):=by rw[hc,afu hcl]
      have hfin:=HC (U:=U) (V:=V) (L:=L) (p:=i+b.length+1) (by rw[show i+b.length+1=i+1+b.length by omega]; exact hUl) (by omega) (afD hV (afz (by decide) (by omega)));rw[aa afg,eidx,hlen,aa afh,aa (afi (by omega)),aa afg,ew,hset,hfin];rfl
  · simp only[kV]
    rw[afj (by omega:¬(a.length:Int)<a.length),afk,af3,kA _ (gQ _ _) (by rw[ak]; simp only[L]; omega) (by rw[ak]; simp only[L]; omega)];rw[mi (sJ (iL ha) hB)]
theorem D7 (n:Nat):2 ^ n=18446744073709551616 ^ (n / 64)*2 ^ (n%64):=by
 have e:(18446744073709551616:Nat)=2 ^ 64:=by decide
 rw[e,<- aif,<- afx];congr 1; omega
theorem bf (i:Nat):0<18446744073709551616 ^ i:=agt (by decide)
theorem Lm {N:Nat} (m:List Int) (hm:InWq m) (n:Nat) (hn:n<4294967296) (hN:m.length+n / 64+4<N) (hs:m.length<=1099511627776) (k:Kz6):wa N m n k=k (ae (ar m*2 ^ n)):=by
 (unfold wa; rw[ac]; unfold vj)
 by_cases h0:m.length=0
 ·have:m=[]:=List.length_eq_zero_iff.1 h0;subst this;show k []=k (ae (0*2 ^ n));rw[agE,bw]
 ·have e0:((m.length:Int)==0)=false:=by simp; intro h; subst h; simp at h0
  have ew:IntKind.wrap .u64 (Int.tdiv (n:Int) 64)=((n / 64:Nat):Int):=by rw[am,ago (by omega)]; omega
  have es:Int.tmod (n:Int) 64=((n%64:Nat):Int):=by rw[age (by omega)]; rfl
  rw[e0,afk,ew,es];have hw6:n / 64<67108864:=by omega
  generalize hw:n / 64=w at *;generalize hsh:n%64=s at *;have hs32:s<64:=by omega
  have hp2:2 ^ n=18446744073709551616 ^ w*2 ^ s:=by rw[D7,hw,hsh]
  have hs0:0<2 ^ s:=afy s;have hs1:2 ^ s*2 ^ (64 - s)=18446744073709551616:=by rw[<- afx,show s+(64 - s)=64 by omega]
  have elen:Int.toNat (((w:Nat):Int)+(m.length:Int)+1)=w+m.length+1:=by omega
  rw[aa afg,aa afg,aa afg,aa (bI (by omega) (by omega) (by omega) (by omega)),elen]
  let V:=ar m*2 ^ n
  let X:=ar m*2 ^ s
  have hVX:V=18446744073709551616 ^ w*X:=by simp only[V,X]; rw[hp2,afP]
  let T:=λi=>ar (m.take i)*2 ^ s
  let c:=λi=>T i / 18446744073709551616 ^ i
  have hcl:∀ i,c i<2 ^ s:=by intro i;simp only[c,T];rw[afs (bf i),afn];exact agu (aU hm i) hs0
  refine aJ (λi=>((i:Int),dlq V (w+i)++((c i:Nat):Int)::List.replicate (m.length - i) 0)) m.length ?_ (by omega) (λi hi K=>?_) (λK=>?_)
  ·congr 1;show List.replicate (w+m.length+1) (0:Int)=dlq V w++((c 0:Nat):Int)::List.replicate m.length 0;rw[hVX,sx];have hc0:c 0=0:=by simp[c,T,ar]
   rw[hc0];have:w+m.length+1=w+(m.length+1):=by omega
   rw[this,<- ag4,af5]; rfl
  ·have hx:=hm.at (i:=i);have hT:T (i+1)=T i+18446744073709551616 ^ i*((m.getD i 0).toNat*2 ^ s):=by simp only[T,aN,afM,aft]
   have hq:T (i+1) / 18446744073709551616 ^ i=c i+(m.getD i 0).toNat*2 ^ s:=by rw[hT,dc]
   have hci:c i<2 ^ s:=hcl i;have hc1:c (i+1)=(c i+(m.getD i 0).toNat*2 ^ s) / 18446744073709551616:=by rw[<- hq]; simp only[c]; rw[afv,afr]
   have hdig:V / 18446744073709551616 ^ (w+i)%18446744073709551616=(c i+(m.getD i 0).toNat*2 ^ s)%18446744073709551616:=by rw[<- hq,hVX,afx,<- afr,afV _ (bf w)];obtain⟨R,hR⟩:=bL m (i+1);refine iS (R:=R*2 ^ s) ?_;simp only[X,T];rw[hR,afM,aft]
   have hrep:List.replicate (m.length - i) (0:Int)=0::List.replicate (m.length - (i+1)) 0:=by rw[show m.length - i=(m.length - (i+1))+1 by omega,af5]
   have hdl:=ak V (w+i);have ei:Int.toNat ((w:Int)+(i:Int))=w+i:=by omega
   have ei1:Int.toNat ((w:Int)+(i:Int)+1)=w+i+1:=by omega
   have emin:min s 64=s:=by omega
   have e64:min (Int.toNat (IntKind.wrap .u64 (64 - (s:Int)))) 64=64 - s:=by rw[am]; omega
   simp only[fk,afo,ei,ei1,emin,e64];rw[hrep,ci hdl.symm,bu _ _ _ _ _ hdl.symm];have hmx:m.getD i 0=(((m.getD i 0).toNat:Nat):Int):=by omega
   rw[hmx];generalize hxx:(m.getD i 0).toNat=x at *;have hx32:x<18446744073709551616:=by omega
   have hlow:x*2 ^ s%18446744073709551616=2 ^ s*(x%2 ^ (64 - s)):=by
    have e:x*2 ^ s%(2 ^ s*2 ^ (64 - s))=2 ^ s*(x%2 ^ (64 - s)):=by rw[afn x]; exact ahc _ _ _
    rwa [hs1]at e
   have hsum:2 ^ s*(x%2 ^ (64 - s))+c i<18446744073709551616:=by have h1:x%2 ^ (64 - s)+1<=2 ^ (64 - s):=afA _ (afy _);have h2:=afq (2 ^ s) h1;rw[hs1,afB]at h2;omega
   have epw:(x:Int)*2 ^ s=((x*2 ^ s:Nat):Int):=by rw[afF,agM]; rfl
   have eor:aD .or .u64 ((c i:Nat):Int) (IntKind.wrap .u64 ((x:Int)*2 ^ s))=((V / 18446744073709551616 ^ (w+i)%18446744073709551616:Nat):Int):=by
    have e1:IntKind.wrap .u64 ((x*2 ^ s:Nat):Int)=((2 ^ s*(x%2 ^ (64 - s)):Nat):Int):=by rw[<- hlow,am]; omega
    rw[epw,e1,cP _ _ s hci hsum,hdig];omega
   have ehi:Int.fdiv (x:Int) (2 ^ (64 - s))=((c (i+1):Nat):Int):=by
    have e2:(2:Int) ^ (64 - s)=((2 ^ (64 - s):Nat):Int):=by rw[agM]; rfl
    rw[e2,kF,hc1];have:(c i+x*2 ^ s) / 18446744073709551616=x / 2 ^ (64 - s):=by rw[<- hs1,<- afr,afn x,agh _ _ hs0,afO hci,afL]
    rw[this]
   rw[eor,ehi];have hl1:∀(a b:Int) (ys:List Int),(dlq V (w+i)++a::b::ys).length=w+i+2+ys.length:=by intro a b ys; simp[hdl]; omega
   have hset2:(dlq V (w+i)++((V / 18446744073709551616 ^ (w+i)%18446744073709551616:Nat):Int)::0::List.replicate (m.length - (i+1)) 0).set (w+i+1) ((c (i+1):Nat):Int)=dlq V (w+(i+1))++((c (i+1):Nat):Int)::List.replicate (m.length - (i+1)) 0:=by
    have:dlq V (w+i)++((V / 18446744073709551616 ^ (w+i)%18446744073709551616:Nat):Int)::0::List.replicate (m.length - (i+1)) 0=dlq V (w+(i+1))++0::List.replicate (m.length - (i+1)) 0:=by rw[<- afY,dlq]; simp
    rw[this];exact bu _ _ _ _ _ (by rw[ak]; omega)
   rw[hset2,hl1,hl1];simp only[agI];rw[afi (by omega:(i:Int)<((m.length:Nat):Int)),afl,aa afh,aa afg,aa afh,aa (afi (by omega)),aa (afi (by omega)),aa afh,aa (afi (by omega)),aa afg,aa afg,aa (afi (by rw[am]; omega)),aa afh,aa (afi (by omega)),aa afg];rfl
  ·simp only[fk];rw[afj (by omega:¬(m.length:Int)<m.length),afk,afT,afX];have hV:V<18446744073709551616 ^ (w+m.length+1):=by
    have h1:=iL hm;simp only[V];rw[hp2,afv,afx,afP,aft];refine agu ?_ (bf w);have hs2:2 ^ s<=18446744073709551616:=by rw[<- hs1]; exact agj _ (afy _)
    exact af4 h1 hs2 (by decide)
   have hT:T m.length=X:=by simp only[T,X]; rw[af3]
   have hend:dlq V (w+m.length)++[((c m.length:Nat):Int)]=dlq V (w+m.length+1):=by
    rw[dlq];have:c m.length=V / 18446744073709551616 ^ (w+m.length)%18446744073709551616:=by
     have hX:V / 18446744073709551616 ^ (w+m.length)=X / 18446744073709551616 ^ m.length:=by rw[hVX,afx,<- afr,afV _ (bf w)]
     have h2:=hcl m.length;have hs2:2 ^ s<=18446744073709551616:=by rw[<- hs1]; exact agj _ (afy _)
     rw[hX,<- hT];exact(afu (by show c m.length<_; omega)).symm
    rw[this]
   rw[hend,kA _ (gQ V _) (by rw[ak]; omega) (by rw[ak]; omega),mi hV]
theorem nK:∀(i V:Nat),(ae V).getD i 0=((V / 18446744073709551616 ^ i%18446744073709551616:Nat):Int)
 | i,V=>by
  by_cases h:V=0
  ·subst h; rw[bw]; simp
  ·rw[b_ h];cases i with
   | zero=>simp
   | succ i=>
    show(ae (V / 18446744073709551616)).getD i 0=_;rw[nK i (V / 18446744073709551616),afv,afn,<- afr]
theorem ue {l:List Int} {n i:Nat} (h:i<n):(l.take n).getD i 0=l.getD i 0:=by rw[List.getD_eq_getElem?_getD,List.getD_eq_getElem?_getD,List.getElem?_take,if_pos h]
theorem An {m:List Int} (hm:InWq m) (j:Nat):∃ R,ar m / 18446744073709551616 ^ j=(m.getD j 0).toNat+18446744073709551616*(m.getD (j+1) 0).toNat+18446744073709551616*18446744073709551616*R:=by
 obtain⟨R,hR⟩:=bL m (j+2);refine⟨R,?_⟩;rw[hR,aN,aN];simp only[afv];have e:ar (m.take j)+18446744073709551616 ^ j*(m.getD j 0).toNat+18446744073709551616 ^ j*18446744073709551616*(m.getD (j+1) 0).toNat+18446744073709551616 ^ j*18446744073709551616*18446744073709551616*R
   = ar (m.take j)+18446744073709551616 ^ j*((m.getD j 0).toNat+18446744073709551616*(m.getD (j+1) 0).toNat+18446744073709551616*18446744073709551616*R):=by
  rw[afB,afB,aft,aft,aft,aft]; omega
 rw[e,dc,afO (aU hm j),afL]
theorem Dk {x y s:Nat} (hs:s<64) (hx:x<18446744073709551616) (hy:y<18446744073709551616):aD .or .u64 (Int.fdiv (x:Int) (2 ^ s)) (IntKind.wrap .u64 ((y:Int)*2 ^ (64 - s)))=(((x+18446744073709551616*y) / 2 ^ s%18446744073709551616:Nat):Int):=by
 have hs0:0<2 ^ s:=afy s;have hs1:2 ^ s*2 ^ (64 - s)=18446744073709551616:=by rw[<- afx,show s+(64 - s)=64 by omega]
 have e1:Int.fdiv (x:Int) (2 ^ s)=((x / 2 ^ s:Nat):Int):=by
  have e2:(2:Int) ^ s=((2 ^ s:Nat):Int):=by rw[agM]; rfl
  rw[e2,kF]
 have e3:(y:Int)*2 ^ (64 - s)=((y*2 ^ (64 - s):Nat):Int):=by rw[afF,agM]; rfl
 have hlow:y*2 ^ (64 - s)%18446744073709551616=2 ^ (64 - s)*(y%2 ^ s):=by
  have e:2 ^ (64 - s)*y%(2 ^ (64 - s)*2 ^ s)=2 ^ (64 - s)*(y%2 ^ s):=ahc _ _ _
  rwa [afn (2 ^ (64 - s)) (2 ^ s),hs1,afn (2 ^ (64 - s)) y]at e
 have e4:IntKind.wrap .u64 ((y*2 ^ (64 - s):Nat):Int)=((2 ^ (64 - s)*(y%2 ^ s):Nat):Int):=by rw[<- hlow,am]; omega
 have hxl:x / 2 ^ s<2 ^ (64 - s):=by rw[afs hs0,afn,hs1]; exact hx
 have hsum:2 ^ (64 - s)*(y%2 ^ s)+x / 2 ^ s<18446744073709551616:=by have h1:y%2 ^ s+1<=2 ^ s:=afA _ hs0;have h2:=afq (2 ^ (64 - s)) h1;rw[afn (2 ^ (64 - s)) (2 ^ s),hs1,afB]at h2;omega
 rw[e1,e3,e4,cP _ _ (64 - s) hxl hsum];congr 1;have e5:(x+18446744073709551616*y) / 2 ^ s=x / 2 ^ s+2 ^ (64 - s)*y:=by rw[<- hs1,aft,agh _ _ hs0]
 rw[e5];have e6:y=y%2 ^ s+2 ^ s*(y / 2 ^ s):=(ahx _ _).symm;have e7:2 ^ (64 - s)*y=2 ^ (64 - s)*(y%2 ^ s)+18446744073709551616*(y / 2 ^ s):=by
  conv=>lhs; rw[e6]
  rw[afB,<- aft,afn (2 ^ (64 - s)) (2 ^ s),hs1]
 rw[e7,<- afY,agC,afu (a:=x / 2 ^ s+2 ^ (64 - s)*(y%2 ^ s)) (b:=18446744073709551616) (by rw[ahi]; exact hsum)];exact ahi _ _
theorem Bi:∀ n:Nat,n ≠ 0 -> ∃ t c,n=2 ^ t*(2*c+1):=by
 intro n;induction n using Nat.strongRecOn with
 | ind n ih=>
  intro h0;by_cases h:n%2=0
  ·obtain⟨t,c,hc⟩:=ih (n / 2) (by omega) (by omega);exact⟨t+1,c,by rw[afv,afn (2 ^ t) 2,aft,<- hc]; omega⟩
  ·exact⟨0,n / 2,by rw[ag7,agQ]; omega⟩
theorem uN {a b:Nat} (ha:a<18446744073709551616) (hb:b<18446744073709551616):aD .and .u64 (a:Int) (b:Int)=((a &&& b:Nat):Int):=by
 unfold aD rq;simp only[af8];have h64:(2:Nat) ^ 64=18446744073709551616:=by decide
 have e:((BitVec.ofInt (IntKind.bits .u64) (a:Int)) &&& (BitVec.ofInt (IntKind.bits .u64) (b:Int))).toNat=a &&& b:=by show((BitVec.ofInt 64 (a:Int)) &&& (BitVec.ofInt 64 (b:Int))).toNat=_;rw[ah5,ags,ags,agA,agA,afu (by omega),afu (by omega)]
 have hl:a &&& b<18446744073709551616:=agV Nat.and_le_left ha;rw[e,xu _ hl]
theorem QD {t c:Nat} (h:2 ^ t*(2*c+1)<2 ^ 64):(2 ^ t*(2*c+1)) &&& (2 ^ 64 - 2 ^ t*(2*c+1))=2 ^ t:=by
 have ht0:0<2 ^ t:=afy t;have ht:t<64:=by
  rcases agb t 64 with h1 | h1
  ·exact h1
  ·have h2:2 ^ 64<=2 ^ t:=afz (by decide) h1;have h3:2 ^ t*1<=2 ^ t*(2*c+1):=afq _ (by omega);omega
 have e1:2 ^ t*(2*c+1)=(2 ^ t*(2*c)+(2 ^ t - 1))+1:=by rw[afB]; omega
 refine ahC λj=>?_
 rw[aih];have e2:(2 ^ 64 - 2 ^ t*(2*c+1)).testBit j=(decide (j<64) && !(2 ^ t*(2*c)+(2 ^ t - 1)).testBit j):=by
  conv=>lhs; rw[e1]
  exact ah_ (by rw[e1]at h; omega) j
 rw[e2,Nat.testBit_two_pow_mul,aii _ (by omega),ahg];rcases ahW j t with hj | hj | hj
 ·rw[afj (by omega:¬ j>=t),afj (by omega:¬ t=j)]; rfl
 ·subst hj;rw[if_neg (by omega),afT,afi (afw _),afi ht,afi rfl];have a1:(2*c+1).testBit 0=true:=by rw[ah6]; simp
  have a2:(2*c).testBit 0=false:=by rw[ah6]; simp
  rw[a1,a2]; rfl
 ·obtain⟨k,hk⟩:∃ k,j - t=k+1:=⟨j - t - 1,by omega⟩
  rw[if_neg (by omega),hk,afi (by omega:j>=t),afj (by omega:¬ t=j),ah7,ah7];have a1:(2*c+1) / 2=c:=by omega
  have a2:2*c / 2=c:=by omega
  rw[a1,a2];cases c.testBit k <;> simp
theorem WA:∀ t:Fin 64,(inR (Int.fdiv (IntKind.wrap .u64 (((2 ^ t.val:Nat):Int)*285870213051353865)) (2 ^ 58)) 64=true)/\(List.getD zp (Int.toNat (Int.fdiv (IntKind.wrap .u64 (((2 ^ t.val:Nat):Int)*285870213051353865)) (2 ^ 58))) 0=(t.val:Int)):=by decide +kernel
theorem VO (N:Nat) {t c:Nat} (h:2 ^ t*(2*c+1)<18446744073709551616) (k:Kz2):V5 N ((2 ^ t*(2*c+1):Nat):Int) k=k (t:Int):=by
 have h64:(2:Nat) ^ 64=18446744073709551616:=by decide
 have ht0:0<2 ^ t:=afy t;have hx0:0<2 ^ t*(2*c+1):=ahj ht0 (by omega);have ht:t<64:=by
  rcases agb t 64 with h1 | h1
  ·exact h1
  ·have h2:2 ^ 64<=2 ^ t:=afz (by decide) h1;have h3:2 ^ t*1<=2 ^ t*(2*c+1):=afq _ (by omega);omega
 (unfold V5; rw[ac]; unfold Qs)
 have ha:=QD (t:=t) (c:=c) (by omega);rw[h64]at ha;generalize 2 ^ t*(2*c+1)=x at *;have e0:((x:Int)==0)=false:=by simp; omega
 have ew:IntKind.wrap .u64 (0 - (x:Int))=((18446744073709551616 - x:Nat):Int):=by rw[am]; omega
 obtain⟨t1,t2⟩:=WA ⟨t,ht⟩;rw[e0,afk,ew,uN h (by omega),ha,aa t1,t2,aa afg]
theorem VR {V w:Nat} (h:V / 18446744073709551616 ^ w ≠ 0):w<(ae V).length:=by
 rcases agb w (ae V).length with h1 | h1
 ·exact h1
 ·exfalso;have h2:=iL (bb V);rw[aF]at h2;exact h (afO (afD h2 (afz (by decide) h1)))
theorem KD {B n:Nat} (h:aX B n):(ae n).length<=B / 64+1:=by
 refine gd _ _ ?_;have e:(18446744073709551616:Nat)=2 ^ 64:=by decide
 rw[e,<- aif];exact afD h (afz (by decide) (by omega))
theorem Le {N:Nat} (g:Bool) (n:Nat) (h:(ae n).length<=1099511627776) (k:Ky2):RY N g (ae n) k=sD (-(bc g n)) k:=by
 (unfold RY; rw[ac]; unfold Tz)
 rw[xY _ h,nV (!g) g (ae n) n k];congr 1; unfold bc; cases g <;> simp
theorem OR {N:Nat} (hN:1000<=N) (n:Nat) (hn:n<18446744073709551616) (b:Bool) (k:Ky2):RQ N n b k=k false (ae n):=by
 (unfold RQ; rw[ac]; unfold Tk)
 rw[um hN n hn]; rfl
theorem sG {N:Nat} (hN:1000<=N) (n:Nat) (hn:n<9223372036854775808) (k:Ky2):GK N n k=k false (ae n):=by
 (unfold GK Sx; unfold XB; rw[ac]; unfold TF)
 have e:IntKind.wrap .u64 (n:Int)=n:=by rw[am]; omega
 rw[afj (by omega:¬(n:Int)<0),afk,e,um hN n (by omega)]; rfl
theorem Ld {N:Nat} (s:Nat) (b g:Bool) (n:Nat) (hs:s<4294967296) (hN:(ae n).length+s / 64+4<N) (h:(ae n).length<=1099511627776) (k:Ky2):Wj N s b g (ae n) k=sD (bc g (n*2 ^ s)) k:=by unfold Wj WW;rw[Lm _ (bb n) s hs hN h,aF,Ih g b _ k]
theorem qy {n:Nat} (h0:n ≠ 0) (h:n<18446744073709551616):ae n=[(n:Int)]:=by rw[b_ h0,afO h,bw,afu h]
theorem uO (a b:Int):aD .or .u64 a b=aD .or .u64 b a:=by unfold aD rq;simp only[af8];rw[BitVec.or_comm]
end Go.Proofs.YtdinakfmablagaaGreatDoor
