/-
  PURE: laws of the seat's functions, taken over from another seat of mine.
  Conditions: none.
-/
import Derived.Test.YteifemaagdeomaaGreatDoorGp
import Derived.Test.YteifemaagdeomaaGreatDoorBig
set_option linter.unusedVariables false
namespace Go.Proofs.YteifemaagdeomaaGreatDoor
open Go Go.Mach
theorem aa {a c:Bool} (h:a=true):(a&&c)=c:=by rw[h]; rfl
theorem am (z:Int):IntKind.wrap .u64 z=z%18446744073709551616:=by rfl
theorem dk (z:Int):IntKind.wrap .u32 z=z%4294967296:=by rfl
theorem jG (z:Int):Int.fdiv z (2 ^ 32)=z / 4294967296:=by rw[aeK _ (by decide)]; rfl
theorem aC {σ:Type} {step:σ->(σ->Bool)->Bool} {s:σ} (C:Nat->σ) (n:Nat) {N:Nat} (h0:s=C 0) (hn:n<N) {out:Bool} (hs:∀ i,i<n -> ∀ K:σ->Bool,step (C i) K=K (C (i+1))) (hx:∀ K,step (C n) K=out):ak N step s=out:=by subst h0; exact aD C n hn hs hx
def bM (b:List Int):Nat->Nat
 | 0=>0
 | n+1=>if b.getD n 0=0 then bM b n else n+1
theorem mX (b:List Int) (n:Nat):bM b (n+1)=if b.getD n 0=0 then bM b n else n+1:=rfl
theorem jt (b:List Int):∀ n,bM b n<=n
 | 0=>ads _
 | n+1=>by unfold bM; split; exact Nat.le_succ_of_le (jt b n); exact ads _
theorem dY {b:List Int} {i:Nat} (h:b.length<=i):b.getD i 0=0:=by rw[List.getD_eq_getElem?_getD,List.getElem?_eq_none h]; rfl
theorem aM {m:List Int} (i:Nat):aB (m.take (i+1))=aB (m.take i)+4294967296 ^ i*(m.getD i 0).toNat:=by
 by_cases h:i<m.length
 ·exact yA h
 ·rw[dY (by omega),adC (by omega),adC (by omega)]; simp
theorem qA (b:List Int):∀ n,aB (b.take (bM b n))=aB (b.take n)
 | 0=>rfl
 | n+1=>by
  unfold bM;split
  ·rename_i h;rw[qA b n,aM,h]; simp
  ·rfl
theorem getLast?_take {b:List Int} {n:Nat} (h:n<b.length):(b.take (n+1)).getLast? = some (b.getD n 0):=by rw[aex h,List.getLast?_append,List.getD_eq_getElem?_getD,List.getElem?_eq_getElem h];simp
theorem qz (b:List Int):∀ n,n<=b.length -> ∀ x,(b.take (bM b n)).getLast? = some x->x ≠ 0
 | 0,_,x,h=>by simp[bM]at h
 | n+1,hn,x,h=>by
  unfold bM at h;split at h
  ·exact qz b n (by omega) x h
  ·rename_i h0;rw[getLast?_take (by omega)]at h;cases h; exact h0
theorem rn {b:List Int} (hb:InW b):b.take (bM b b.length)=ai (aB b):=by have h1:=qA b b.length;rw[adX]at h1;rw[<- h1,vb (hb.take _) (qz b b.length (ads _))]
theorem kD {N:Nat} (b:List Int) (hN:b.length<N) (hs:b.length<9223372036854775807) (k:Kz3):og N b k=k (bM b b.length):=by
 (unfold og; rw[ac]; unfold OM)
 have key:∀ n,n<=b.length -> ∀ M,n<M->ak M (tS N 0 b λm=>k m) n=k (bM b n):=by
  intro n;induction n with
  | zero=>
   intro _ M hM;cases M with
   | zero=>omega
   | succ M=>
    show tS N 0 b _ 0 _=_;simp[tS,bM]
  | succ n ih=>
   intro hn M hM;cases M with
   | zero=>omega
   | succ M=>
    show tS N 0 b _ (n+1) (ak M _)=_;have e:Int.toNat (((n+1:Nat):Int) - 1)=n:=by omega
    simp only[tS,e,adJ,afk];rw[ade (by omega:((n+1:Nat):Int)>0),aa adb,aa adc,aa (ade (by omega)),aa adb,aa (ade (by omega)),ih (by omega) M (by omega)];rw[mX];by_cases h0:b.getD n 0=0
    ·have:(b.getD n 0==0)=true:=by simpa using h0
     rw[this,if_pos h0]; rfl
    ·have:(b.getD n 0==0)=false:=by simpa using h0
     rw[this,if_neg h0]; rfl
 exact key b.length (ads _) N hN
theorem Gs {N:Nat} (m:List Int) (hm:InW m) (hN:m.length<N) (hs:m.length<9223372036854775807) (k:Kz6):kJ N m k=k (ai (aB m)):=by
 (unfold kJ; rw[ac]; unfold uR)
 have key:∀ n,n<9223372036854775807 -> ∀(l:List Int),l.length=n->InW l -> ∀ M,n<M->ak M (fz N λUV=>k UV) l=k (ai (aB l)):=by
  intro n;induction n with
  | zero=>
   intro _ l hl _ M hM;cases M with
   | zero=>omega
   | succ M=>
    have:l=[]:=List.length_eq_zero_iff.1 hl;subst this;show fz N _ [] _=_;simp[fz,aB,aT]
  | succ n ih=>
   intro hn l hl hw M hM;cases M with
   | zero=>omega
   | succ M=>
    show fz N _ l (ak M _)=_;have e:Int.toNat ((l.length:Int) - 1)=n:=by omega
    simp only[fz,e,aeO];rw[ade (by omega:(l.length:Int)>0),aa adb,aa adc,aa adb,aa (ade (by omega)),ih (by omega) (l.take n) (by simp; omega) (hw.take n) M (by omega)];have e2:=aM (m:=l) n;rw[adC (by omega)]at e2;by_cases h0:l.getD n 0=0
    ·have:(l.getD n 0==0)=true:=by simpa using h0
     rw[this];rw[h0]at e2;simp at e2;rw[e2]; rfl
    ·have:(l.getD n 0==0)=false:=by simpa using h0
     rw[this,vb hw (λx hx=>by have:=getLast?_take (b:=l) (n:=n) (by omega);rw[adC (by omega)]at this;rw[this]at hx; cases hx; exact h0)]
     rfl
 exact key m.length hs m rfl hm N hN
theorem dr {N:Nat} (b:List Int) (hb:InW b) (hN:b.length<N) (hs:b.length<9223372036854775807) (k:Kz6) :
  (og N b λl=>(decide (0+l<=b.length))&&k (List.take l (List.drop 0 b)))=k (ai (aB b)):=by
 rw[kD b hN hs,aeO,rn hb];have:=jt b b.length;rw[ade (by omega)]; rfl
def fi (N:Nat) (l:List Int):Prop:=l.length+2<N/\l.length<=17592186044416
theorem dX (T A i:Nat):(T+4294967296 ^ i*A) / 4294967296 ^ i=T / 4294967296 ^ i+A:=aeb _ _ (aen (by decide))
theorem Fo (m:List Int) (i:Nat):aB m=aB (m.take i)+4294967296 ^ (m.take i).length*aB (m.drop i):=by rw[<- qO,afo]
theorem bW (m:List Int) (i:Nat):∃ R,aB m=aB (m.take i)+4294967296 ^ i*R:=by
 by_cases h:i<=m.length
 ·refine⟨aB (m.drop i),?_⟩;have:=Fo m i
  rwa [adV,aeH h]at this
 ·exact⟨0,by rw[adC (by omega)]; simp⟩
theorem bd {m:List Int} (h:InW m) (i:Nat):aB (m.take i)<4294967296 ^ i:=by
 have h1:=eK (h.take i);have h2:(m.take i).length<=i:=by simp; omega
 exact adz h1 (adv (by decide) h2)
theorem k6 {S T R i:Nat} (h:S=T+4294967296 ^ (i+1)*R):S / 4294967296 ^ i%4294967296=T / 4294967296 ^ i%4294967296:=by rw[h,adr,adq,dX,aew]
theorem Ay {N:Nat} (a b:List Int) (ha:InW a) (hb:InW b) (hl:b.length<=a.length) (hN:fi N a) (k:Kz6) :
  ak N (gf N a b λcarry out=>(inR (a.length:Nat) out.length)&&((decide ((Int.toNat (a.length:Nat))<out.length)) &&
   (og N (List.set out (Int.toNat (a.length:Nat)) (IntKind.wrap .u32 carry)) λVH=>(decide ((0+VH)<=(List.length (List.set out (Int.toNat (a.length:Nat)) (IntKind.wrap .u32 carry)))))&&k (List.take VH (List.drop 0 (List.set out (Int.toNat (a.length:Nat)) (IntKind.wrap .u32 carry)))))))
   (0,0,List.replicate (a.length+1) 0)=k (ai (aB a+aB b)):=by
 obtain⟨hN1,hN2⟩:=hN
 let S:=aB a+aB b
 let T:=λi=>aB (a.take i)+aB (b.take i)
 refine aC (λi=>(((T i / 4294967296 ^ i:Nat):Int),(i:Int),dl S i++List.replicate (a.length+1 - i) 0)) a.length (by simp[T,aB,dl]) (by omega) (λi hi K=>?_) (λK=>?_)
 ·have hx:=ha.at (i:=i);have hy:=hb.at (i:=i);have hT:T (i+1)=T i+4294967296 ^ i*((a.getD i 0).toNat+(b.getD i 0).toNat):=by simp only[T,aM,adw]; omega
  have hq:T (i+1) / 4294967296 ^ i=T i / 4294967296 ^ i+((a.getD i 0).toNat+(b.getD i 0).toNat):=by rw[hT,dX]
  have hc:T i / 4294967296 ^ i<=1:=by
   have h1:=bd ha i;have h2:=bd hb i;have h3:T i<4294967296 ^ i*2:=by simp only[T]; omega
   have:=(ado (aen (n:=i) (by decide:0<4294967296))).2 (by rw[adi]; exact h3:T i<2*4294967296 ^ i);omega
  have hdiv:T (i+1) / 4294967296 ^ (i+1)=T (i+1) / 4294967296 ^ i / 4294967296:=by rw[adr,adm]
  have hdig:S / 4294967296 ^ i%4294967296=T (i+1) / 4294967296 ^ i%4294967296:=by obtain⟨R1,h1⟩:=bW a (i+1);obtain⟨R2,h2⟩:=bW b (i+1);refine k6 (R:=R1+R2) ?_;simp only[S,T];rw[adw]; omega
  have hset:=xK S i (a.length+1) (by omega);have hlen:(dl S i++List.replicate (a.length+1 - i) 0).length=a.length+1:=by simp[al]; omega
  generalize hq':T i / 4294967296 ^ i=q at *;generalize hx':a.getD i 0=x at *;generalize hy':b.getD i 0=y at *;simp only[gf,adk];rw[ade (by omega:(i:Int)<a.length),adh,hx',hy',aa adc,hlen];have hstep:∀ s:Int,s=((q+(x.toNat+y.toNat):Nat):Int)->K ((Int.fdiv s (2 ^ 32)),((i:Int)+1),(List.set (dl S i++List.replicate (a.length+1 - i) 0) i (IntKind.wrap .u32 s)))=K (((T (i+1) / 4294967296 ^ (i+1):Nat):Int),((i+1:Nat):Int),dl S (i+1)++List.replicate (a.length+1 - (i+1)) 0):=by
   intro s hs;have e1:Int.fdiv s (2 ^ 32)=((T (i+1) / 4294967296 ^ (i+1):Nat):Int):=by rw[jG,hdiv,hq,hs]; omega
   have e2:IntKind.wrap .u32 s=((S / 4294967296 ^ i%4294967296:Nat):Int):=by rw[dk,hdig,hq,hs]; omega
   rw[e1,e2,hset]; rfl
  by_cases hib:i<b.length
  ·rw[ade (by omega:(i:Int)<b.length),adh,aa adc,aa adc,aa (ade (by omega)),aa adb];exact hstep _ (by simp only[am]; omega)
  ·rw[adf (by omega:¬(i:Int)<b.length),adg,aa adc,aa (ade (by omega)),aa adb];have hy0:y=0:=by rw[<- hy']; exact dY (by omega)
   subst hy0;exact hstep _ (by simp only[am]; omega)
 ·simp only[gf];rw[adf (by omega:¬(a.length:Int)<a.length),adg];have hT:T a.length=S:=by simp only[T,S]; rw[adX,adC hl]
  have hS:S<4294967296 ^ (a.length+1):=by have h1:=eK ha;have h2:=eK hb;have h3:4294967296 ^ b.length<=4294967296 ^ a.length:=adv (by decide) hl;rw[adr];simp only[S]; omega
  have hlen:(dl S a.length++List.replicate (a.length+1 - a.length) 0).length=a.length+1:=by simp[al]
  have e2:IntKind.wrap .u32 ((T a.length / 4294967296 ^ a.length:Nat):Int)=((S / 4294967296 ^ a.length%4294967296:Nat):Int):=by rw[dk,hT]; omega
  have hset:=xK S a.length (a.length+1) (by omega);rw[e2,adk,hset,hlen,aa adc,aa (ade (by omega)),adQ,adS,adN,
   dr _ (iN S _) (by rw[al]; omega) (by rw[al]; omega),oJ hS]
theorem KT {N:Nat} (a b:List Int) (ha:InW a) (hb:InW b) (hNa:fi N a) (hNb:fi N b) (k:Kz6):tL N a b k=k (ai (aB a+aB b)):=by
 (unfold tL; rw[ac]; unfold sT)
 have h1:=hNa.2;have h2:=hNb.2;by_cases h:a.length<b.length
 ·rw[ade (by omega:(a.length:Int)<b.length),adh,aa adb,aa (bY (by omega) (by omega) (by omega) (by omega))];have e:Int.toNat ((b.length:Int)+1)=b.length+1:=by omega
  rw[e,Ay b a hb ha (by omega) hNb k,ae9]
 ·rw[adf (by omega:¬(a.length:Int)<b.length),adg,aa adb,aa (bY (by omega) (by omega) (by omega) (by omega))];have e:Int.toNat ((a.length:Int)+1)=a.length+1:=by omega
  rw[e,Ay a b ha hb (by omega) hNa k]
theorem aQ (i:Nat):0<4294967296 ^ i:=aen (by decide)
theorem xY {D e P:Nat} {z:Int} (h:(D:Int)=(e:Int)+(P:Int)*z) (he:e<P):((D / P:Nat):Int)=z:=by
 have hP:(P:Int) ≠ 0:=by omega
 rw[Int.natCast_ediv,h,Int.add_mul_ediv_left _ _ hP,<- Int.natCast_ediv,adK he];simp
theorem mV (P A B x y:Nat) (hA:A<P) (hB:B<P):(if A+P*x<B+P*y then 1 else 0)=if x<y+(if A<B then 1 else 0)then 1 else(0:Nat):=by
 by_cases hxy:x<y
 ·have:P*(x+1)<=P*y:=adn P hxy;rw[adw]at this;rw[if_pos (by omega),if_pos (by omega)]
 ·by_cases hyx:y<x
  ·have:P*(y+1)<=P*x:=adn P hyx;rw[adw]at this;rw[if_neg (by omega),if_neg (by split <;> omega)]
  ·have:x=y:=by omega
   subst this;by_cases hAB:A<B
   ·rw[if_pos (by omega),if_pos hAB,if_pos (by omega)]
   ·rw[if_neg (by omega),if_neg hAB,if_neg (by omega)]
theorem Cy {P A B x y o R1 R2 D a b:Nat} (hA:A<P) (hB:B<P) (ho:o=if A<B then 1 else 0) (h1:a=A+P*x+P*4294967296*R1) (h2:b=B+P*y+P*4294967296*R2) (hD:(D:Int)=(a:Int) - (b:Int)) :
  ((D / P:Nat):Int)=(x:Int) - (y:Int) - (o:Int)+4294967296*((R1:Int) - (R2:Int)):=by
 have he:∃ e:Nat,e<P/\(e:Int)=(A:Int) - (B:Int)+(P:Int)*(o:Int):=by
  rw[ho];split
  ·exact⟨A+P - B,by omega,by omega⟩
  ·exact⟨A - B,by omega,by omega⟩
 obtain⟨e,he1,he2⟩:=he;refine xY (e:=e) ?_ he1;have e1:(a:Int)=A+(P:Int)*x+4294967296*((P:Int)*R1):=by rw[h1,adq,adG]; simp
 have e2:(b:Int)=B+(P:Int)*y+4294967296*((P:Int)*R2):=by rw[h2,adq,adG]; simp
 have e3:(P:Int)*((x:Int) - (y:Int) - (o:Int)+4294967296*((R1:Int) - (R2:Int)))=(P:Int)*x - (P:Int)*y - (P:Int)*o+(4294967296*((P:Int)*R1) - 4294967296*((P:Int)*R2)):=by rw[Int.mul_add,afD,afD,Int.mul_left_comm,afD,afD]
 rw[hD,e1,e2,e3,he2];omega
theorem vu {N:Nat} (a b:List Int) (ha:InW a) (hb:InW b) (hle:aB b<=aB a) (hN:fi N a) (k:Kz6):lD N a b k=k (ai (aB a - aB b)):=by
 obtain⟨hN1,hN2⟩:=hN
 (unfold lD; rw[ac]; unfold qa)
 rw[aa (bY (by omega) (by omega) (by omega) (by omega)),adk]
 let D:=aB a - aB b
 let bo:=λi=>if aB (a.take i)<aB (b.take i)then(1:Nat)else 0
 refine aC (λi=>(((bo i:Nat):Int),(i:Int),dl D i++List.replicate (a.length - i) 0)) a.length (by simp[bo,aB,dl]) (by omega) (λi hi K=>?_) (λK=>?_)
 ·have hx:=ha.at (i:=i);have hy:=hb.at (i:=i);have hA:=aM (m:=a) i;have hB:=aM (m:=b) i;have hAl:=bd ha i;have hBl:=bd hb i;have hset:=xK D i a.length (by omega);have hl:(dl D i++List.replicate (a.length - i) 0).length=a.length:=by simp[al]; omega
  obtain⟨R1,h1⟩:=bW a (i+1);obtain⟨R2,h2⟩:=bW b (i+1);have hD:(D:Int)=(aB a:Int) - (aB b:Int):=by simp only[D]; omega
  have hP:=aQ i;have hPs:4294967296 ^ (i+1)=4294967296 ^ i*4294967296:=adr ..;have hbo:bo i<=1:=by simp only[bo]; split <;> omega
  have hbs:bo (i+1)=if (a.getD i 0).toNat<(b.getD i 0).toNat+bo i then 1 else 0:=by simp only[bo,hA,hB];exact mV _ _ _ _ _ hAl hBl
  have hq:((D / 4294967296 ^ i:Nat):Int)=((a.getD i 0).toNat:Int) - ((b.getD i 0).toNat:Int) - (bo i:Int)+4294967296*((R1:Int) - (R2:Int)):=by rw[hA,hPs]at h1;rw[hB,hPs]at h2;exact Cy hAl hBl rfl h1 h2 hD
  have hdig:((D / 4294967296 ^ i%4294967296:Nat):Int)=(((a.getD i 0).toNat:Int) - ((b.getD i 0).toNat:Int) - (bo i:Int))%4294967296:=by rw[Int.natCast_emod,hq];exact Int.add_mul_emod_self_left _ _ _
  generalize hx':a.getD i 0=x at *;generalize hy':b.getD i 0=y at *;generalize bo i=o at *;generalize bo (i+1)=o' at *;simp only[ka,adk];have hy0:¬ i<b.length->y=0:=λh=>by rw[<- hy']; exact dY (by omega)
  have fin:∀(v w:Int),v=(o':Int)->w%4294967296=((D / 4294967296 ^ i%4294967296:Nat):Int)->K (v,(i:Int)+1,List.set (dl D i++List.replicate (a.length - i) 0) i (IntKind.wrap .u32 w))=K ((o':Int),((i+1:Nat):Int),dl D (i+1)++List.replicate (a.length - (i+1)) 0):=by intro v w hv hw;rw[hv,dk,hw,hset]; rfl
  simp only[hx',hy',hl];rw[ade (by omega:(i:Int)<a.length),adh];by_cases hib:i<b.length
  ·rw[ade (by omega:(i:Int)<b.length),adh,aa adc,aa adc];by_cases hlt:x.toNat<y.toNat+o
   ·rw[ade (by simp only[am]; omega),adh,aa adc,aa (ade (by omega)),aa adb];rw[if_pos hlt]at hbs;exact fin _ _ (by omega) (by rw[hdig]; simp only[am]; omega)
   ·rw[adf (by simp only[am]; omega),adg,aa adc,aa (ade (by omega)),aa adb];rw[if_neg hlt]at hbs;exact fin _ _ (by omega) (by rw[hdig]; simp only[am]; omega)
  ·have hy1:=hy0 hib;rw[adf (by omega:¬(i:Int)<b.length),adg,aa adc];by_cases hlt:x.toNat<y.toNat+o
   ·rw[ade (by simp only[am]; omega),adh,aa adc,aa (ade (by omega)),aa adb];rw[if_pos hlt]at hbs;exact fin _ _ (by omega) (by rw[hdig]; simp only[am]; omega)
   ·rw[adf (by simp only[am]; omega),adg,aa adc,aa (ade (by omega)),aa adb];rw[if_neg hlt]at hbs;exact fin _ _ (by omega) (by rw[hdig]; simp only[am]; omega)
 ·simp only[ka];rw[adf (by omega:¬(a.length:Int)<a.length),adg,adQ,adS,adN];have hS:D<4294967296 ^ a.length:=by have:=eK ha; simp only[D]; omega
  rw[dr _ (iN D _) (by rw[al]; omega) (by rw[al]; omega),oJ hS]
theorem cu (a c s:Nat) (ha:a<2 ^ s) (hlt:2 ^ s*c+a<18446744073709551616):az .or .u64 (a:Int) ((2 ^ s*c:Nat):Int)=((2 ^ s*c+a:Nat):Int):=by
 unfold az pF;simp only[ad3];have e:((BitVec.ofInt (IntKind.bits .u64) (a:Int)) ||| (BitVec.ofInt (IntKind.bits .u64) ((2 ^ s*c:Nat):Int))).toNat=2 ^ s*c+a:=by
  show((BitVec.ofInt 64 (a:Int)) ||| (BitVec.ofInt 64 ((2 ^ s*c:Nat):Int))).toNat=_;have h64:(2:Nat) ^ 64=18446744073709551616:=by decide
  rw[BitVec.toNat_or,aem,aem,aeu,aeu,adp (by omega),adp (by omega),Nat.or_comm,<- af9 ha]
 rw[e,uL _ hlt]
theorem D9 (n:Nat) (h:n<4294967296):IntKind.wrap .u32 (n:Int)=n:=by rw[dk]; omega
theorem pG (a c s:Nat) (ha:a<2 ^ s) (hlt:2 ^ s*c+a<4294967296):az .or .u32 (a:Int) ((2 ^ s*c:Nat):Int)=((2 ^ s*c+a:Nat):Int):=by
 unfold az pF;simp only[ad3];have e:((BitVec.ofInt (IntKind.bits .u32) (a:Int)) ||| (BitVec.ofInt (IntKind.bits .u32) ((2 ^ s*c:Nat):Int))).toNat=2 ^ s*c+a:=by
  show((BitVec.ofInt 32 (a:Int)) ||| (BitVec.ofInt 32 ((2 ^ s*c:Nat):Int))).toNat=_;have h32:(2:Nat) ^ 32=4294967296:=by decide
  rw[BitVec.toNat_or,aem,aem,aeu,aeu,adp (by omega),adp (by omega),Nat.or_comm,<- af9 ha]
 rw[e,D9 _ hlt]
def dC (x y:Nat):Int:=if x<y then -1 else if x=y then 0 else 1
theorem J2 {P A B x y:Nat} (hA:A<P) (h:x<y):dC (A+P*x) (B+P*y) = -1:=by have:P*(x+1)<=P*y:=adn P h;rw[adw]at this;unfold dC;rw[if_pos (by omega)]
theorem J1 {P A B x y:Nat} (hB:B<P) (h:y<x):dC (A+P*x) (B+P*y)=1:=by have:P*(y+1)<=P*x:=adn P h;rw[adw]at this;unfold dC;rw[if_neg (by omega),if_neg (by omega)]
theorem Cl {P A B x:Nat}:dC (A+P*x) (B+P*x)=dC A B:=by
 unfold dC;by_cases h3:A<B
 ·rw[if_pos h3,if_pos (by omega)]
 ·by_cases h4:A=B
  ·subst h4; simp
  ·rw[if_neg h3,if_neg h4,if_neg (by omega),if_neg (by omega)]
theorem AZ {N:Nat} (a b:List Int) (ha:InW a) (hb:InW b) (hl:a.length=b.length) (hs:a.length<9223372036854775807) (k:Kz2) :
  ∀ n,n<=a.length -> ∀ M,n<M->ak M (tO N a b (λt4=>k t4) (k 0)) ((n:Int) - 1)=k (dC (aB (a.take n)) (aB (b.take n))):=by
 intro n;induction n with
 | zero=>
  intro _ M hM;cases M with
  | zero=>omega
  | succ M=>
   show tO N a b _ _ ((0:Nat) - 1:Int) _=_;simp[tO,dC,aB]
 | succ n ih=>
  intro hn M hM;cases M with
  | zero=>omega
  | succ M=>
   show tO N a b _ _ (((n+1:Nat):Int) - 1) (ak M _)=_;have e:(((n+1:Nat):Int) - 1)=(n:Int):=by omega
   have hx:=ha.at (i:=n);have hy:=hb.at (i:=n);have hA:=aM (m:=a) n;have hB:=aM (m:=b) n;have hAl:=bd ha n;have hBl:=bd hb n;rw[e];simp only[tO,adk];rw[hA,hB,ade (by omega:(n:Int)>=0),adh,aa adc,aa adc,aa adc,aa adc,aa adb,ih (by omega) M (by omega)];by_cases h1:a.getD n 0<b.getD n 0
   ·rw[ade h1,adh,J2 hAl (by omega)]
   ·rw[adf h1,adg];by_cases h2:a.getD n 0>b.getD n 0
    ·rw[ade h2,adh,J1 hBl (by omega)]
    ·rw[adf h2,adg];have:a.getD n 0=b.getD n 0:=by omega
     rw[this,Cl]
theorem bT {x y:Nat} (h:x<=y):(ai x).length<=(ai y).length:=by
 induction y using Nat.strongRecOn generalizing x with
 | ind y ih=>
  by_cases hx:x=0
  ·subst hx; rw[aT]; simp
  ·rw[ce hx,ce (by omega:y ≠ 0)];simp only[adR];have:=ih (y / 4294967296) (by omega) (x:=x / 4294967296) (afw h);omega
theorem jz {N:Nat} (x y:Nat) (hx:fi N (ai x)) (hy:fi N (ai y)) (k:Kz2):wF N (ai x) (ai y) k=k (dC x y):=by
 (unfold wF; rw[ac]; unfold IY)
 obtain⟨x1,x2⟩:=hx;obtain⟨y1,y2⟩:=hy;by_cases h:(ai x).length=(ai y).length
 ·have e:(((ai x).length:Int) != (ai y).length)=false:=by rw[h]; simp
  rw[e,adg,aa adb,AZ (ai x) (ai y) (aX x) (aX y) h (by omega) k _ (ads _) N (by omega),adX,h,adX,aH,aH]
 ·have e:(((ai x).length:Int) != (ai y).length)=true:=by simp; omega
  rw[e,adh];by_cases h1:(ai x).length<(ai y).length
  ·rw[ade (by omega),adh];have:x<y:=by
    rcases aef x y with h2 | h2
    ·exact h2
    ·have:=bT h2; omega
   unfold dC; rw[if_pos this]
  ·rw[adf (by omega),adg];have:¬ x<=y:=λh2=>by have:=bT h2; omega
   unfold dC; rw[if_neg (by omega),if_neg (by omega)]
def bl (n:Nat):Nat:=if n=0 then 0 else n.log2+1
theorem kZ {n:Nat} (j:Nat) (h:2 ^ j<=n):bl n=j+bl (n / 2 ^ j):=by
 have hp:0<2 ^ j:=adt j;have h0:n ≠ 0:=by omega
 have h1:n / 2 ^ j ≠ 0:=by have:=afE h hp;omega
 unfold bl;rw[if_neg h0,if_neg h1];have hj:j<=n.log2:=(Nat.le_log2 h0).2 h;have:(n / 2 ^ j).log2=n.log2 - j:=by
  rw[Nat.log2_eq_iff h1];have h2:=Nat.log2_self_le h0;have h3:n<2 ^ (n.log2+1):=Nat.lt_log2_self;constructor
  ·rw[aeY hp,<- ady];rw[show n.log2 - j+j=n.log2 by omega]; exact h2
  ·rw[ado hp,<- ady];rw[show n.log2 - j+1+j=n.log2+1 by omega]; exact h3
 omega
theorem Rq:∀ i:Fin 256,ax.getD i.val 0=(bl i.val:Int):=by decide +kernel
theorem LU {i:Nat} (h:i<256):ax.getD i 0=(bl i:Int):=Rq ⟨i,h⟩
theorem Cb {n:Nat} (h:n<256):bl n<=8:=by
 unfold bl;split
 ·omega
 ·rename_i h0;have:=(Nat.log2_lt h0).2 (by simpa using h:n<2 ^ 8);omega
theorem Ot (z:Int):IntKind.wrap .u8 z=z%256:=by rfl
theorem NU (z:Int):Int.fdiv z (2 ^ 8)=z / 256:=by rw[aeK _ (by decide)]; rfl
theorem Kl (z:Int):Int.fdiv z (2 ^ 16)=z / 65536:=by rw[aeK _ (by decide)]; rfl
theorem Ac (N:Nat) (x:Nat) (h:x<4294967296) (k:Kz2):GQ N (x:Int) k=k (bl x:Int):=by
 (unfold GQ; rw[ac]; unfold Jk)
 simp only[NU,Kl,Ot];have key:∀(z:Int) (m:Nat),z=(m:Int)->m<256 -> ∀ c:Nat,c<=32->((inR z 256)&&((ah .i64 (List.getD ax (Int.toNat z) 0))&&((ah .i64 ((c:Int)+(List.getD ax (Int.toNat z) 0)))&&k ((c:Int)+List.getD ax (Int.toNat z) 0))))=k ((c+bl m:Nat):Int):=by intro z m hz hm c hc;subst hz;have:=Cb hm;rw[adk,LU hm,aa adc,aa adb,aa adb];rfl
 by_cases h16:65536<=x
 ·rw[ade (by omega:(x:Int)>=65536),adh];have e16:=kZ (n:=x) 16 (by simpa using h16);have p16:(2:Nat) ^ 16=65536:=by decide
  have p8:(2:Nat) ^ 8=256:=by decide
  rw[p16]at e16;by_cases h8:256<=x / 65536
  ·rw[ade (by omega:(x:Int) / 65536>=256),adh];have e8:=kZ (n:=x / 65536) 8 (by simpa using h8);rw[p8]at e8;have:=key ((x:Int) / 65536 / 256%256) (x / 65536 / 256) (by omega) (by omega) 24 (by omega);rw[show((24:Nat):Int)=24 from rfl]at this;rw[this]; congr 2; omega
  ·rw[adf (by omega:¬(x:Int) / 65536>=256),adg];have:=key ((x:Int) / 65536%256) (x / 65536) (by omega) (by omega) 16 (by omega);rw[show((16:Nat):Int)=16 from rfl]at this;rw[this]; congr 2; omega
 ·rw[adf (by omega:¬(x:Int)>=65536),adg];by_cases h8:256<=x
  ·rw[ade (by omega:(x:Int)>=256),adh];have e8:=kZ (n:=x) 8 (by simpa using h8);rw[show(2:Nat) ^ 8=256 by decide]at e8;have:=key ((x:Int) / 256%256) (x / 256) (by omega) (by omega) 8 (by omega);rw[show((8:Nat):Int)=8 from rfl]at this;rw[this]; congr 2; omega
  ·rw[adf (by omega:¬(x:Int)>=256),adg];have:=key ((x:Int)%256) x (by omega) (by omega) 0 (by omega);rw[show((0:Nat):Int)=0 from rfl]at this;rw[this]; congr 2; omega
theorem qB:∀ n,n ≠ 0->bl n=32*((ai n).length - 1)+bl ((ai n).getD ((ai n).length - 1) 0).toNat/\0<(ai n).length:=by
  intro n;induction n using Nat.strongRecOn with
  | ind n ih=>
    intro h;rw[ce h];by_cases h1:n / 4294967296=0
    · rw[h1,aT]
      have:n%4294967296=n:=adp (by omega);simp[this]
    · obtain⟨i1,i2⟩:=ih (n / 4294967296) (by omega) h1
      have e:=kZ (n:=n) 32 (by have:(2:Nat) ^ 32=4294967296:=(by decide); omega);rw[show(2:Nat) ^ 32=4294967296 by decide]at e;refine⟨?_,by simp⟩;have e2:(((n%4294967296:Nat):Int)::ai (n / 4294967296)).getD ((((n%4294967296:Nat):Int)::ai (n / 4294967296)).length - 1) 0=(ai (n / 4294967296)).getD ((ai (n / 4294967296)).length - 1) 0:=by
        simp only[adR,afH];generalize ai (n / 4294967296)=l at i2 ⊢;cases l with
        | nil=>simp at i2
        | cons y l=>simp
      rw[e2,e,i1];simp only[adR];omega
theorem yf {N:Nat} (g:Bool) (n:Nat) (hs:fi N (ai n)) (k:Kz2):IC N g (ai n) k=k (bl n:Int):=by
  (unfold IC; rw[ac]; unfold O9)
  obtain⟨s1,s2⟩:=hs;by_cases h:n=0
  · subst h; rw[aT]; rfl
  · obtain⟨e1,e2⟩:=qB n h
    have e0:(((ai n).length:Int)==0)=false:=by simp; intro h'; rw[h']at e2; simp at e2
    have e3:Int.toNat (((ai n).length:Int) - 1)=(ai n).length - 1:=by omega
    have hw:=(aX n).at (i:=(ai n).length - 1);have hb:bl ((ai n).getD ((ai n).length - 1) 0).toNat<=32:=by
      unfold bl; split
      · omega
      · rename_i h0
        have:=(Nat.log2_lt h0).2 (by have:(2:Nat) ^ 32=4294967296:=(by decide); omega:((ai n).getD ((ai n).length - 1) 0).toNat<2 ^ 32);omega
    have e4:(ai n).getD ((ai n).length - 1) 0=((((ai n).getD ((ai n).length - 1) 0).toNat:Nat):Int):=by omega
    rw[e0,adg,aa adb,aa adb,aa adb,aa adc,e3,e4,Ac N _ (by omega),aa adb];congr 1; omega
theorem tm:∀(w X:Nat),dl (4294967296 ^ w*X) w=List.replicate w 0:=by
 intro w;have key:∀ n,n<=w -> ∀ X,dl (4294967296 ^ w*X) n=List.replicate n 0:=by
  intro n;induction n with
  | zero=>intro _ X; rfl
  | succ n ih=>
   intro hn X;rw[dl,ih (by omega),aeT];have e:4294967296 ^ w*X=4294967296 ^ n*(4294967296*(4294967296 ^ (w - n - 1)*X)):=by rw[<- adq,<- adq,<- adr,<- ady];congr 2; omega
   rw[e,adP _ (aQ n),ago];rfl
 exact key w (ads _)
theorem uA (n:Nat):2 ^ n=4294967296 ^ (n / 32)*2 ^ (n%32):=by
 have:(4294967296:Nat)=2 ^ 32:=by decide
 rw[this,<- af_,<- ady];congr 1; omega
theorem aW {α:Type} (xs:List α) (y:α) (ys:List α) (z:α) (n:Nat) (h:n=xs.length):(xs++y::ys).set n z=xs++z::ys:=by subst h; rw[afp _ _ (ads _),adQ]; rfl
theorem bU {xs:List Int} {y:Int} {ys:List Int} {n:Nat} (h:n=xs.length):(xs++y::ys).getD n 0=y:=by subst h; rw[List.getD_eq_getElem?_getD,List.getElem?_append_right (ads _),adQ]; rfl
theorem KP {N:Nat} (m:List Int) (hm:InW m) (n:Nat) (hn:n<4294967296) (hN:m.length+n / 32+4<N) (hs:m.length<=1099511627776) (k:Kz6):tK N m n k=k (ai (aB m*2 ^ n)):=by
 (unfold tK; rw[ac]; unfold sS)
 by_cases h0:m.length=0
 ·have:m=[]:=List.length_eq_zero_iff.1 h0;subst this;simp[aB,aT]
 ·have e0:((m.length:Int)==0)=false:=by simp; intro h; subst h; simp at h0
  have ew:IntKind.wrap .u64 (Int.tdiv (n:Int) 32)=((n / 32:Nat):Int):=by rw[am,aei (by omega)]; omega
  have es:Int.tmod (n:Int) 32=((n%32:Nat):Int):=by rw[ad9 (by omega)]; rfl
  rw[e0,adg,ew,es];generalize hw:n / 32=w at *;generalize hsh:n%32=s at *;have hs32:s<32:=by omega
  have hp2:2 ^ n=4294967296 ^ w*2 ^ s:=by rw[uA,hw,hsh]
  have hs0:0<2 ^ s:=adt s;have hs1:2 ^ s*2 ^ (32 - s)=4294967296:=by rw[<- ady,show s+(32 - s)=32 by omega]
  have hs2:2 ^ s<=2147483648:=by have:2 ^ s<=2 ^ 31:=adv (by decide) (by omega);simpa using this
  have elen:Int.toNat (((w:Nat):Int)+(m.length:Int)+1)=w+m.length+1:=by omega
  rw[aa adb,aa adb,aa adb,aa (bY (by omega) (by omega) (by omega) (by omega)),elen]
  let V:=aB m*2 ^ n
  let X:=aB m*2 ^ s
  have hVX:V=4294967296 ^ w*X:=by simp only[V,X]; rw[hp2,adG]
  let T:=λi=>aB (m.take i)*2 ^ s
  let c:=λi=>T i / 4294967296 ^ i
  refine aC (λi=>((i:Int),dl V (w+i)++((c i:Nat):Int)::List.replicate (m.length - i) 0)) m.length ?_ (by omega) (λi hi K=>?_) (λK=>?_)
  ·congr 1;show List.replicate (w+m.length+1) (0:Int)=dl V w++((c 0:Nat):Int)::List.replicate m.length 0;rw[hVX,tm];have hc0:c 0=0:=by simp[c,T,aB]
   rw[hc0];have:w+m.length+1=w+(m.length+1):=by omega
   rw[this,<- aeW,ad0]; rfl
  ·have hx:=hm.at (i:=i);have hT:T (i+1)=T i+4294967296 ^ i*((m.getD i 0).toNat*2 ^ s):=by simp only[T,aM,adI,adq]
   have hq:T (i+1) / 4294967296 ^ i=c i+(m.getD i 0).toNat*2 ^ s:=by rw[hT,dX]
   have hci:c i<2 ^ s:=by simp only[c,T];rw[ado (aQ i),adi];exact aeo (bd hm i) hs0
   have hc1:c (i+1)=(c i+(m.getD i 0).toNat*2 ^ s) / 4294967296:=by rw[<- hq]; simp only[c]; rw[adr,adm]
   have hdig:V / 4294967296 ^ (w+i)%4294967296=(c i+(m.getD i 0).toNat*2 ^ s)%4294967296:=by rw[<- hq,hVX,ady,<- adm,adP _ (aQ w)];obtain⟨R,hR⟩:=bW m (i+1);refine k6 (R:=R*2 ^ s) ?_;simp only[X,T];rw[hR,adI,adq]
   have hrep:List.replicate (m.length - i) (0:Int)=0::List.replicate (m.length - (i+1)) 0:=by rw[show m.length - i=(m.length - (i+1))+1 by omega,ad0]
   have hdl:=al V (w+i);have ei:Int.toNat ((w:Int)+(i:Int))=w+i:=by omega
   have ei1:Int.toNat ((w:Int)+(i:Int)+1)=w+i+1:=by omega
   have emin:min s 64=s:=by omega
   simp only[eA,adk,ei,ei1,emin];rw[hrep,bU hdl.symm,aW _ _ _ _ _ hdl.symm];have et:IntKind.wrap .u64 (IntKind.wrap .u64 (m.getD i 0)*2 ^ s)=(((m.getD i 0).toNat*2 ^ s:Nat):Int):=by
    have hxs:(m.getD i 0).toNat*2 ^ s<4294967296*2147483648:=adZ (by omega) hs2 (by decide);have e1:IntKind.wrap .u64 (m.getD i 0)=(((m.getD i 0).toNat:Nat):Int):=by rw[am]; omega
    have e2:(((m.getD i 0).toNat:Nat):Int)*2 ^ s=(((m.getD i 0).toNat*2 ^ s:Nat):Int):=by simp
    rw[e1,e2,am]; omega
   rw[et];generalize hxx:(m.getD i 0).toNat=x at *;have hx32:x<4294967296:=by omega
   have hlow:x*2 ^ s%4294967296=2 ^ s*(x%2 ^ (32 - s)):=by
    have e:x*2 ^ s%(2 ^ s*2 ^ (32 - s))=2 ^ s*(x%2 ^ (32 - s)):=by rw[adi x]; exact ae2 _ _ _
    rwa [hs1]at e
   have hsum:2 ^ s*(x%2 ^ (32 - s))+c i<4294967296:=by have h1:x%2 ^ (32 - s)+1<=2 ^ (32 - s):=adu _ (adt _);have h2:=adn (2 ^ s) h1;rw[hs1,adw]at h2;omega
   have eor:az .or .u32 ((c i:Nat):Int) (IntKind.wrap .u32 ((x*2 ^ s:Nat):Int))=((V / 4294967296 ^ (w+i)%4294967296:Nat):Int):=by
    have e1:IntKind.wrap .u32 ((x*2 ^ s:Nat):Int)=((2 ^ s*(x%2 ^ (32 - s)):Nat):Int):=by rw[<- hlow,dk]; omega
    rw[e1,pG _ _ s hci hsum,hdig];omega
   have ehi:IntKind.wrap .u32 (Int.fdiv ((x*2 ^ s:Nat):Int) (2 ^ 32))=((c (i+1):Nat):Int):=by have hxs:x*2 ^ s<4294967296*2147483648:=adZ hx32 hs2 (by decide);rw[jG,dk,hc1];omega
   rw[eor,ehi];have hl1:∀(a b:Int) (ys:List Int),(dl V (w+i)++a::b::ys).length=w+i+2+ys.length:=by intro a b ys; simp[hdl]; omega
   have hset2:(dl V (w+i)++((V / 4294967296 ^ (w+i)%4294967296:Nat):Int)::0::List.replicate (m.length - (i+1)) 0).set (w+i+1) ((c (i+1):Nat):Int)=dl V (w+(i+1))++((c (i+1):Nat):Int)::List.replicate (m.length - (i+1)) 0:=by
    have:dl V (w+i)++((V / 4294967296 ^ (w+i)%4294967296:Nat):Int)::0::List.replicate (m.length - (i+1)) 0=dl V (w+(i+1))++0::List.replicate (m.length - (i+1)) 0:=by rw[<- adY,dl]; simp
    rw[this];exact aW _ _ _ _ _ (by rw[al]; omega)
   rw[hset2,hl1,hl1];simp only[aeB];rw[ade (by omega:(i:Int)<m.length),adh,aa adc,aa (ade (by omega)),aa adb,aa adc,aa (ade (by omega)),aa adc,aa (ade (by omega)),
    aa adb,aa adb,aa adc,aa (ade (by omega)),aa adb]
   rfl
  ·simp only[eA];rw[adf (by omega:¬(m.length:Int)<m.length),adg,adQ,adS];have hV:V<4294967296 ^ (w+m.length+1):=by have h1:=eK hm;simp only[V];rw[hp2,adr,ady,adG,adq];refine aeo ?_ (aQ w);exact adZ h1 (by omega) (by decide)
   have hT:T m.length=X:=by simp only[T,X]; rw[adX]
   have hend:dl V (w+m.length)++[((c m.length:Nat):Int)]=dl V (w+m.length+1):=by
    rw[dl];have:c m.length=V / 4294967296 ^ (w+m.length)%4294967296:=by simp only[c];rw[hT,hVX,ady,<- adm,adP _ (aQ w)];rw[adp];rw[ado (aQ _),adi];have h1:=eK hm;simp only[X];exact adZ h1 (by omega) (by decide)
    rw[this]
   rw[hend,dr _ (iN V _) (by rw[al]; omega) (by rw[al]; omega),oJ hV]
theorem zX {m:List Int} (hm:InW m) (j:Nat):∃ R,aB m / 4294967296 ^ j=(m.getD j 0).toNat+4294967296*(m.getD (j+1) 0).toNat+4294967296*4294967296*R:=by
 obtain⟨R,hR⟩:=bW m (j+2);refine⟨R,?_⟩;rw[hR,aM,aM];simp only[adr];have e:aB (m.take j)+4294967296 ^ j*(m.getD j 0).toNat+4294967296 ^ j*4294967296*(m.getD (j+1) 0).toNat+4294967296 ^ j*4294967296*4294967296*R
   = aB (m.take j)+4294967296 ^ j*((m.getD j 0).toNat+4294967296*(m.getD (j+1) 0).toNat+4294967296*4294967296*R):=by
  rw[adw,adw,adq,adq,adq,adq]; omega
 rw[e,dX,adK (bd hm j),adJ]
theorem rX {N:Nat} (n:Nat) (hn:n<18446744073709551616) (hN:4<N) (k:Kz6):AD N n k=k (ai n):=by
 (unfold AD; rw[ac]; unfold Jz)
 have hw:InW [IntKind.wrap .u32 (n:Int),IntKind.wrap .u32 (Int.fdiv (n:Int) (2 ^ 32))]:=by intro x hx;simp only[dk,jG,aeF,aff,or_false]at hx;rcases hx with rfl | rfl <;> omega
 have hv:aB [IntKind.wrap .u32 (n:Int),IntKind.wrap .u32 (Int.fdiv (n:Int) (2 ^ 32))]=n:=by simp only[aB,dk,jG]; omega
 rw[dr _ hw (by simp; omega) (by simp),hv]
def sg (neg:Bool) (n:Nat):Bool:=neg&&decide (n ≠ 0)
theorem l3 (n:Nat):decide (((ai n).length:Int)>0)=decide (n ≠ 0):=by
 by_cases h:n=0
 ·subst h; rw[aT]; simp
 ·obtain⟨-,h2⟩:=qB n h;rw[ade (by omega),ade h]
theorem Ob (neg:Bool) (n:Nat) (k:Ky3):cond (neg==true) (k (decide (((ai n).length:Int)>0)) (ai n)) (k false (ai n))=k (sg neg n) (ai n):=by rw[l3];cases neg <;> rfl
theorem mh {N:Nat} (neg:Bool) (m:List Int) (b:Bool) (hm:InW m) (hN:fi N m) (k:Ky3):wI N neg m b k=k (sg neg (aB m)) (ai (aB m)):=by unfold wI NH;rw[Gs m hm (by have:=hN.1; omega) (by have:=hN.2; omega)];exact Ob neg _ k
theorem sI {N:Nat} (n:Nat) (hn:n<18446744073709551616) (b:Bool) (hN:fi N (ai n)) (h4:4<N) (k:Ky3):Np N n b k=k false (ai n):=by
 (unfold Np; rw[ac]; unfold O5)
 rw[rX n hn h4,mh false _ b (aX n) hN,aH];rfl
def aS (g:Bool) (n:Nat):Int:=if g=true then -(n:Int)else n
def sw (z:Int) (k:Ky3):Bool:=k (decide (z<0)) (ai z.natAbs)
theorem sa (g:Bool) (n:Nat) (k:Ky3):k (sg g n) (ai n)=sw (aS g n) k:=by
 unfold sw aS sg;cases g
 ·simp only[aet,adM,afQ,aea];rw[adf (by omega)]
 ·simp only[aeQ,aek,afR,aea];congr 1;by_cases h:n=0
  ·subst h; rfl
  ·rw[ade h,ade (by omega)]
theorem KA (z:Int):aS (decide (z<0)) z.natAbs=z:=by
 unfold aS;by_cases h:z<0
 ·rw[ade h]; simp; omega
 ·rw[adf h]; simp; omega
theorem rH {x y:Nat}:decide (dC x y>=0)=decide (y<=x):=by
 unfold dC;split
 ·rw[adf (by omega),adf (by omega)]
 ·split
  ·rw[ade (by omega),ade (by omega)]
  ·rw[ade (by omega),ade (by omega)]
theorem II (g1 g2 turn:Bool) (n1 n2:Nat) (k:Ky3) :
  cond (g1==(g2 != turn)) (k (sg (g2 != turn) (n1+n2)) (ai (n1+n2))) (cond (decide (dC n1 n2>=0)) (k (sg g1 (n1 - n2)) (ai (n1 - n2))) (k (sg (g2 != turn) (n2 - n1)) (ai (n2 - n1))))
   = sw (aS g1 n1+(if turn=true then -(aS g2 n2)else aS g2 n2)) k:=by
 rw[sa _ _ k,sa _ _ k,sa _ _ k,rH];have key:∀ a b:Int,a=b->sw a k=sw b k:=λa b h=>by rw[h]
 cases g1 <;> cases g2 <;> cases turn <;> simp only[aS] <;> by_cases h:n2<=n1 <;> simp only[h,af2,agh,adh,adg,bne,ae0,ad8,adW,aet,aeQ,adM,(by decide:(false==true)=false),(by decide:(true==false)=false)] <;> refine key _ _ ?_ <;> omega
theorem Ie {N:Nat} (turn b g1:Bool) (n1:Nat) (g2:Bool) (n2:Nat) (h1:fi N (ai n1)) (h2:fi N (ai n2)) (h3:fi N (ai (n1+n2))) (k:Ky3) :
  Ll N turn b g1 (ai n1) g2 (ai n2) k=sw (aS g1 n1+(if turn=true then -(aS g2 n2)else aS g2 n2)) k:=by
 (unfold Ll; rw[ac]; unfold IZ)
 have hs:∀ m,m<=n1+n2->fi N (ai m):=λm hm=>by have:=bT hm;exact⟨by have:=h3.1; omega,by have:=h3.2; omega⟩
 rw[KT _ _ (aX _) (aX _) h1 h2,jz _ _ h1 h2,aH,aH,mh _ _ _ (aX _) h3,aH,<- II];congr 1;by_cases h:n2<=n1
 ·rw[vu _ _ (aX _) (aX _) (by rw[aH,aH]; exact h) h1,aH,aH,mh _ _ _ (aX _) (hs _ (by omega)),aH,rH,ade h];rfl
 ·rw[vu _ _ (aX n2) (aX n1) (by rw[aH,aH]; omega) h2,aH,aH,mh _ _ _ (aX _) (hs _ (by omega)),aH,rH,adf h];rfl
theorem HT {N:Nat} (b g1:Bool) (n1:Nat) (g2:Bool) (n2:Nat) (h1:fi N (ai n1)) (h2:fi N (ai n2)) (h3:fi N (ai (n1+n2))) (k:Ky3) :
  Lm N b g1 (ai n1) g2 (ai n2) k=sw (aS g1 n1 - aS g2 n2) k:=by
 unfold Lm NE;rw[Ie true b g1 n1 g2 n2 h1 h2 h3]; rfl
def SG (N m s:Nat):Prop:=(ai m).length+s / 32+4<N/\(ai m).length<=1099511627776/\s<4294967296/\fi N (ai (m*2 ^ s))
theorem Ad {N:Nat} (s:Nat) (b g:Bool) (n:Nat) (h:SG N n s) (k:Ky3):GO N s b g (ai n) k=sw (aS g (n*2 ^ s)) k:=by
 (unfold GO; rw[ac]; unfold Jf)
 rw[KP _ (aX n) s h.2.2.1 h.1 h.2.1,aH,mh _ _ _ (aX _) h.2.2.2,aH,sa _ _ k]
theorem yh {N:Nat} (n:Nat) (hn:n<9223372036854775808) (hs:fi N (ai n)) (h4:4<N) (k:Ky3):l8 N n k=k false (ai n):=by
 (unfold l8 tX; unfold Oj; rw[ac]; unfold Jj iM)
 have e:IntKind.wrap .u64 (n:Int)=n:=by rw[am]; omega
 rw[adf (by omega:¬(n:Int)<0),adg,e,rX n (by omega) h4,mh _ _ _ (aX _) hs,aH];rfl
theorem Kc:ai 1=[1]:=by rw[ce (by decide),aT]; rfl
theorem jR (a b:Nat):Int.fdiv (a:Int) (b:Int)=((a / b:Nat):Int):=by rw[aeK _ (by omega)]; rfl
theorem pK (N:Nat) (k:Kz2):vD N 52 2047 1075 k=k 9223372036854775808:=by rfl
theorem lT (N:Nat) (k:Kz2):nE N 52 2047 1075 k=k 9218868437227405312:=by rfl
theorem jL (N:Nat) (k:Kz2):lC N 52 2047 1075 k=k 4503599627370496:=by rfl
theorem wX (N:Nat) (k:Kz2):vC N 52 2047 1075 k=k 9221120237041090561:=by
 (unfold vC; rw[ac]; unfold uQ)
 simp only[lT,jL];exact agr k (by decide)
theorem MM (N:Nat) (b:Nat) (k:Kz1):Ln N b 52 2047 1075 k=k (isNaN b):=by
 (unfold Ln; rw[ac]; unfold Jg)
 simp only[pK,lT,nK];congr 1;rw[aeN,aeG,eZ];omega
def cnb (b:Nat):Nat:=if isNaN b then 9221120237041090561 else b
theorem Ai (N:Nat) (b:Nat) (k:Kz2):Lz N b 52 2047 1075 k=k (cnb b):=by unfold Lz RK;simp only[MM,wX,cnb];cases isNaN b <;> rfl
theorem Ao (N:Nat) (b:Nat) (k:Kx8):Nm N b 52 2047 1075 k=k (az .and .u64 (cnb b) 9223372036854775808 != 0) ((cnb b / 4503599627370496%2048:Nat):Int) ((cnb b%4503599627370496:Nat):Int):=by
 (unfold Nm; rw[ac]; unfold O3)
 simp only[Ai,pK,jL];have e1:(2:Int) ^ (min (Int.toNat 52) 64)=((4503599627370496:Nat):Int):=by decide
 have e2:IntKind.wrap .u64 2047=((2 ^ 11 - 1:Nat):Int):=by decide
 have e3:IntKind.wrap .u64 (4503599627370496 - 1)=((2 ^ 52 - 1:Nat):Int):=by decide
 have e4:decide ((0:Int)<=52)=true:=by decide
 rw[e1,jR,e2,e3,jF _ _ (by decide),jF _ _ (by decide),e4,ab (by omega) (by omega)];rfl
theorem AY (b:Nat):cls b=if (cnb b / 4503599627370496%2048)=2047 then(if cnb b%4503599627370496=0 then 2 else 1)else if cnb b / 4503599627370496%2048=0 then(if cnb b%4503599627370496=0 then 3 else 4)else 5:=by
 unfold cls cnb;by_cases h:isNaN b=true
 ·rw[if_pos h,if_pos h]; decide
 ·rw[if_neg h,if_neg h];have hn:¬(9218868437227405312<b%9223372036854775808):=λq=>h ((eZ b).2 q)
  by_cases h1:b / 4503599627370496%2048=2047
  ·rw[if_pos h1,if_pos h1,if_pos (by omega)]
  ·rw[if_neg h1,if_neg h1]
theorem Aj (N:Nat) (b:Nat) (k:Kz2):Nl N b 52 2047 1075 k=k (cls b):=by
 (unfold Nl; rw[ac]; unfold O2)
 simp only[Ao,AY b];generalize cnb b / 4503599627370496%2048=e;generalize cnb b%4503599627370496=f;have d1:((e:Int)==2047)=decide (e=2047):=by rw[aeN,af1,aeG]; omega
 have d2:((e:Int)==0)=decide (e=0):=by rw[aeN,af1,aeG]; omega
 have d3:((f:Int)==0)=decide (f=0):=by rw[aeN,af1,aeG]; omega
 simp only[bne,d1,d2,d3];by_cases h1:e=2047 <;> by_cases h2:e=0 <;> by_cases h3:f=0 <;> simp[h1,h2,h3]
theorem HK (N:Nat) (b:Nat) (k:Kz2):FG N b k=k (cls b):=by unfold FG Rx;simp only[BE,sc,AQ,Aj]
theorem J4 (a b:Nat) (_ha:a<18446744073709551616\/True):decide ((cnb a:Int)=cnb b)=decide (cn (some a)=cn (some b)):=by
 have hq:isNaN 9221120237041090561=true:=by decide
 rw[aeN,aeG,aeG];have cf:∀ c,cn (some c)=if isNaN c=true then none else some c:=λ_=>rfl
 rw[cf,cf];unfold cnb;by_cases h1:isNaN a=true <;> by_cases h2:isNaN b=true
 ·simp[h1,h2]
 ·rw[if_pos h1,if_neg h2,if_pos h1,if_neg h2];refine⟨λh=>?_,λh=>by cases h⟩;have:b=9221120237041090561:=by omega
  rw[this]at h2; exact absurd hq h2
 ·rw[if_neg h1,if_pos h2,if_neg h1,if_pos h2];refine⟨λh=>?_,λh=>by cases h⟩;have:a=9221120237041090561:=by omega
  rw[this]at h1; exact absurd hq h1
 ·simp only[h1,h2,adM,adF,aet]; omega
theorem MG (N:Nat) (b:Nat) (k:Kz4):FI N b k=k (zo (some b)):=by unfold FI RJ;simp only[BE,yM,nK];rfl
theorem J6 (b:Bool) (k:Kz1):cond b (k true) (k false)=k b:=by cases b <;> rfl
theorem gS {a c:Bool} (h:a=true):(a&&c)=c:=by rw[h]; rfl
def js (N n:Nat):Prop:=n<N/\n<=17592186044416
def zA (l:List Int):List Fl:=l.map λn=>fJ n.toNat
theorem yi {N:Nat} (l:List Int) (hl:js N l.length) (k:Kz5):kK N l k=k (zA l):=by
 (unfold kK; rw[ac]; unfold sU)
 refine(aD (λi=>((i:Int),(l.take i).map λn=>fJ n.toNat)) l.length hl.1 (λi hi K=>?_) (λK=>?_):_)
 ·have h2:=hl.2;have e1:(l.take (i+1)).map (λn=>fJ n.toNat)=(l.take i).map (λn=>fJ n.toNat)++[fJ (l.getD i 0).toNat]:=by rw[aex hi,afc,List.getD_eq_getElem?_getD,List.getElem?_eq_getElem hi]; rfl
  simp only[kY,yM,adk];rw[ue (by omega),adh,gS adc,gS (ue (by simp; omega)),gS adb,e1];rfl
 ·simp only[kY];rw[va (by omega),adg,adX]; rfl
def bC (xs:List Fl):Bool:=u9 (λi=>aY (xs.getD i none)) xs.length
theorem kC {N:Nat} (xs:List Fl) (hl:js N xs.length) (k:Kz1):pO N xs k=k (bC xs):=by
 (unfold pO; rw[ac]; unfold I0)
 rw[<- J6 (bC xs) k];refine(ma (λi=>(i:Int)) (λi=>aY (xs.getD i none)) xs.length hl.1 (λi hi K=>?_) (λK=>?_):_)
 ·have h2:=hl.2;simp only[j7,Ly,adk];rw[ue (by omega),adh,gS adc,gS adb];have hc:=Ck (xs.getD i none);generalize xB (xs.getD i none)=c at hc ⊢;generalize aY (xs.getD i none)=f at hc ⊢;have d1:(c==1)=decide (c=1):=rfl;have d2:(c==2)=decide (c=2):=rfl;rw[d1,d2];generalize decide (c=1)=u at *;generalize decide (c=2)=v at *;cases u <;> cases v <;> cases f <;> first | rfl | cases hc
 ·simp only[j7];rw[va (by omega),adg]
def lM:Fl->Nat
 | none=>9221120237041090561
 | some b=>cnb b
theorem Fz (d:Ieee.Datum) (h:d.isNaN=false):d.order d=some .eq:=by
 cases d with
 | nan s t=>cases h
 | infinity s=>simp[Ieee.Datum.order,compare,compareOfLessAndEq]
 | number s m i=>simp[Ieee.Datum.order,compare,compareOfLessAndEq]
theorem Hw (b:Nat) (h:isNaN b=false):(Ieee.double.order b b==some .eq)=true:=by unfold Ieee.Format.order;rw[Fz _ h]; rfl
theorem Kn (b:Nat):feq (some b) (some b) = !isNaN b:=by
 cases h:isNaN b with
 | true=>simp[feq,ug,mG b h]
 | false=>simp only[feq,ug,adW]; exact Hw b h
theorem CW (N:Nat) (x:Fl) (k:Kz2):mL N x k=k (lM x):=by
 unfold mL xl wH;cases x with
 | none=>rfl
 | some b=>
  rw[Kn];simp only[lM,cnb];cases isNaN b <;> rfl
theorem Dl (a b:Nat):Int.tmod (a:Int) (b:Int)=((a%b:Nat):Int):=by rw[ad9 (by omega)]; rfl
theorem Ag (N:Nat) (x:Fl) (k:Kx8):np N x k=k (Int.fdiv (lM x:Int) (2 ^ 63)==1) ((lM x / 4503599627370496%2048:Nat):Int) ((lM x%4503599627370496:Nat):Int):=by
 (unfold np; rw[ac]; unfold qg)
 simp only[CW];have e1:(2:Int) ^ 52=((4503599627370496:Nat):Int):=by decide
 have e2:(2048:Int)=((2048:Nat):Int):=rfl;have e3:(4503599627370496:Int)=((4503599627370496:Nat):Int):=rfl;rw[e1,e2,e3,jR,Dl,Dl,ab (by omega) (by omega)];rfl
theorem Hq (x:Fl):xB x=if (lM x / 4503599627370496%2048)=2047 then(if lM x%4503599627370496=0 then 2 else 1)else if lM x / 4503599627370496%2048=0 then(if lM x%4503599627370496=0 then 3 else 4)else 5:=by
 cases x with
 | none=>decide
 | some b=>exact AY b
theorem zy (N:Nat) (x:Fl) (k:Kz2):q_ N x k=k (xB x):=by
 (unfold q_ vQ; unfold Oo; rw[ac]; unfold JE)
 simp only[Ag,Hq x];generalize lM x / 4503599627370496%2048=e;generalize lM x%4503599627370496=f;have d1:((e:Int)==2047)=decide (e=2047):=by rw[aeN,af1,aeG]; omega
 have d2:((e:Int)==0)=decide (e=0):=by rw[aeN,af1,aeG]; omega
 have d3:((f:Int)==0)=decide (f=0):=by rw[aeN,af1,aeG]; omega
 simp only[bne,d1,d2,d3];by_cases h1:e=2047 <;> by_cases h2:e=0 <;> by_cases h3:f=0 <;> simp[h1,h2,h3]
theorem jP (N:Nat) (x:Fl) (k:Kz1):AC N x k=k (aY x):=by
 unfold AC NL;simp only[zy];congr 1;have h1:=Ck x;have h2:=Mm x;rw[aeN,aeG];cases hf:aY x with
 | true=>
  rw[hf]at h1;simp only[ad8,Bool.or_eq_false_iff,afI]at h1;exact⟨λ_=>rfl,λ_=>by omega⟩
 | false=>
  rw[hf]at h1;simp only[adW,agz,agn]at h1;exact⟨λ_=>by omega,λh=>by cases h⟩
theorem nB {N:Nat} (xs:List Fl) (hl:js N xs.length) (k:Kz1):DA N xs k=k (bC xs):=by
 (unfold DA; rw[ac]; unfold I6)
 rw[<- J6 (bC xs) k];refine(ma (λi=>(i:Int)) (λi=>aY (xs.getD i none)) xs.length hl.1 (λi hi K=>?_) (λK=>?_):_)
 ·have h2:=hl.2;simp only[fA,adk,jP];rw[ue (by omega),adh,gS adc,gS adb];cases aY (xs.getD i none) <;> rfl
 ·simp only[fA];rw[va (by omega),adg]
theorem JU (x y:Fl):((lM x:Int)==lM y)=decide (cn x=cn y):=by
 have hq:cn (some 9221120237041090561)=none:=by decide
 have hb:cnb 9221120237041090561=9221120237041090561:=by decide
 have key:∀ x,∃ a,lM x=cnb a/\cn x=cn (some a):=by
  intro x;cases x with
  | none=>exact⟨9221120237041090561,hb.symm,hq.symm⟩
  | some b=>exact⟨b,rfl,rfl⟩
 obtain⟨a,e1,e2⟩:=key x;obtain⟨b,e3,e4⟩:=key y;rw[e1,e2,e3,e4,<- J4 a b (.inr trivial)];rfl
theorem Bh (N:Nat) (x y:Fl) (k:Kz1):tM N x y k=k (decide (cn x=cn y)):=by
 (unfold tM; rw[ac]; unfold sV)
 simp only[CW,JU]
theorem kz {n i j:Nat} (hi:i<n) (hj:j<n):i*n+j<n*n:=by have:(i+1)*n<=n*n:=adl n hi;rw[adI]at this; omega
theorem yD {n:Nat} (h:n<=12):n*n<=144:=ad7 h h
def chk (r c:Int) (xs:List Fl):Int:=if (0<=r/\r<=12)/\(0<=c/\c<=12)then(if (xs.length:Int)=r*c then(if bC xs=true then 0 else 4)else 3)else 1
theorem M4 {r c:Int} (hr:0<=r/\r<=12) (hc:0<=c/\c<=12):ah .i64 (r*c)=true:=by have h1:0<=r*c:=Int.mul_nonneg hr.1 hc.1;have h2:r*c<=12*12:=Int.mul_le_mul hr.2 hc.2 hc.1 (by decide);exact ab (by omega) (by omega)
theorem qw {r c:Int} {xs:List Fl}:chk r c xs=0↔((0<=r/\r<=12)/\(0<=c/\c<=12))/\(xs.length:Int)=r*c/\bC xs=true:=by
 unfold chk;split
 ·split
  ·split
   ·simp[*]
   ·simp[*]
  ·simp[*]
 ·simp[*]
def elt (xs:List Fl) (n i j:Nat):Fl:=xs.getD (i*n+j) none
theorem GE (V x Bk bk i k:Nat):V%4294967296 ^ (i+k+1)+x*(Bk+4294967296 ^ k*bk)*4294967296 ^ i=(V%4294967296 ^ (i+k)+x*Bk*4294967296 ^ i)+4294967296 ^ (i+k)*(V / 4294967296 ^ (i+k)%4294967296+x*bk):=by rw[Nat.mod_pow_succ,ady];grind
theorem En (V x Bk bk i k:Nat):(V%4294967296 ^ (i+k+1)+x*(Bk+4294967296 ^ k*bk)*4294967296 ^ i) / 4294967296 ^ (i+k+1)=((V%4294967296 ^ (i+k)+x*Bk*4294967296 ^ i) / 4294967296 ^ (i+k)+V / 4294967296 ^ (i+k)%4294967296+x*bk) / 4294967296:=by rw[GE,adr,<- adm,aeb _ _ (aen (by decide)),adY]
theorem Ch (V x Bk bk i k R:Nat):(V+x*(Bk+4294967296 ^ k*bk+4294967296 ^ (k+1)*R)*4294967296 ^ i) / 4294967296 ^ (i+k)%4294967296=((V%4294967296 ^ (i+k)+x*Bk*4294967296 ^ i) / 4294967296 ^ (i+k)+V / 4294967296 ^ (i+k)%4294967296+x*bk)%4294967296:=by
 have e:V+x*(Bk+4294967296 ^ k*bk+4294967296 ^ (k+1)*R)*4294967296 ^ i=(V%4294967296 ^ (i+k+1)+x*(Bk+4294967296 ^ k*bk)*4294967296 ^ i)+4294967296 ^ (i+k+1)*(V / 4294967296 ^ (i+k+1)+x*R):=by
  have h:=aee V (4294967296 ^ (i+k+1));have h2:4294967296 ^ (i+k+1)=4294967296 ^ (k+1)*4294967296 ^ i:=by rw[<- ady]; congr 1; omega
  generalize V / 4294967296 ^ (i+k+1)=q at *;generalize V%4294967296 ^ (i+k+1)=r at *;rw[<- h,h2];grind
 rw[k6 e,GE,aeb _ _ (aen (by decide)),adY]
theorem J0 {V x Bk i k:Nat} (hx:x<4294967296) (hB:Bk<4294967296 ^ k):(V%4294967296 ^ (i+k)+x*Bk*4294967296 ^ i) / 4294967296 ^ (i+k)<4294967296:=by
 rw[ado (aen (by decide))];have h1:V%4294967296 ^ (i+k)<4294967296 ^ (i+k):=adu _ (aen (by decide));have h2:x*Bk<=4294967295*4294967296 ^ k:=ad7 (by omega) (by omega);have h3:x*Bk*4294967296 ^ i<=4294967295*4294967296 ^ (i+k):=by
  have:=adl (4294967296 ^ i) h2
  rwa [adq 4294967295,<- ady,ae9 k i]at this
 omega
theorem rJ (S:Nat) {L i:Nat} (h:i<L):(dl S L).getD i 0=((S / 4294967296 ^ i%4294967296:Nat):Int):=by
 induction L with
 | zero=>omega
 | succ L ih=>
  show((dl S L)++[_]).getD i 0=_;rw[List.getD_eq_getElem?_getD];by_cases hi:i<L
  ·rw[List.getElem?_append_left (by rw[al]; exact hi),<- List.getD_eq_getElem?_getD,ih hi]
  ·have:i=L:=by omega
   subst this;rw[List.getElem?_append_right (by rw[al]; exact ads _),al,adQ]; rfl
theorem cV {l:List Int} {n:Nat} (h:n<l.length):l.drop n=l.getD n 0::l.drop (n+1):=by rw[List.drop_eq_getElem_cons h,List.getD_eq_getElem?_getD,List.getElem?_eq_getElem h]; rfl
theorem pM {b:List Int} {k:Nat}:aB (b.take (k+1))=aB (b.take k)+4294967296 ^ k*(b.getD k 0).toNat:=aM k
theorem xJ (U V L p:Nat) (h:p<L):(dl U p++(dl V L).drop p).set p ((U / 4294967296 ^ p%4294967296:Nat):Int)=dl U (p+1)++(dl V L).drop (p+1):=by rw[cV (by rw[al]; exact h),aW _ _ _ _ _ (by rw[al])];show _=(dl U p++[_])++_;rw[adx]; rfl
theorem Ew (U V L p:Nat) (h:p<L):(dl U p++(dl V L).drop p).getD p 0=((V / 4294967296 ^ p%4294967296:Nat):Int):=by rw[cV (by rw[al]; exact h),bU (by rw[al]),rJ V h]
theorem xI (U V L p:Nat) (h:p<=L):(dl U p++(dl V L).drop p).length=L:=by simp[al]; omega
theorem Hu {U L p:Nat} (hU:U<4294967296 ^ p) (h:p<=L) {V:Nat} (hV:V<4294967296 ^ p):dl U p++(dl V L).drop p=dl U L:=by
 induction L with
 | zero=>
  have:p=0:=by omega
  subst this; rfl
 | succ L ih=>
  by_cases hp:p=L+1
  ·subst hp; rw[ad2 (by rw[al]; omega),adN]
  ·have hpL:p<=L:=by omega
   have e:∀ X,X<4294967296 ^ p->dl X (L+1)=dl X L++[0]:=by intro X hX;show dl X L++[((X / 4294967296 ^ L%4294967296:Nat):Int)]=_;rw[adK (adz hX (adv (by decide) hpL))]; rfl
   rw[e V hV,e U hU,aeg (by rw[al]; exact hpL),<- adx,ih hpL]
theorem tE {a:List Int} (ha:InW a) (i:Nat):aB (a.take i)<4294967296 ^ i:=bd ha i
theorem tD {x y i j:Nat} (hx:x<4294967296 ^ i) (hy:y<4294967296 ^ j):x*y<4294967296 ^ (i+j):=by rw[ady];exact agw hx hy
theorem vw {N:Nat} (a b:List Int) (ha:InW a) (hb:InW b) (hN:a.length+b.length+2<N) (hs:a.length+b.length<=17592186044416) (k:Kz6):pQ N a b k=k (ai (aB a*aB b)):=by
  (unfold pQ; rw[ac]; unfold I2)
  have eL:Int.toNat (((a.length:Nat):Int)+((b.length:Nat):Int))=a.length+b.length:=by omega
  rw[aa adb,aa (bY (by omega) (by omega) (by omega) (by omega)),eL]
  let L:=a.length+b.length
  let B:=aB b
  have hB:B<4294967296 ^ b.length:=eK hb;refine aC (λi=>((i:Int),dl (aB (a.take i)*B) L)) a.length ?_ (by omega) (λi hi K=>?_) (λK=>?_)
  · show((0:Int),List.replicate L (0:Int))=(((0:Nat):Int),dl (aB (a.take 0)*B) L)
    have:=tm L 0;rw[aeC]at this;rw[afy,show aB []=0 from rfl,aeL,this]; rfl
  · simp only[kd]
    rw[ade (by omega:(i:Int)<a.length),adh];have hx:=ha.at (i:=i)
    let V:=aB (a.take i)*B
    let x:=(a.getD i 0).toNat
    let U:=aB (a.take (i+1))*B
    have hU:U=V+x*B*4294967296 ^ i:=by simp only[U,V,x];rw[pM];grind
    have hV:V<4294967296 ^ (i+b.length):=tD (tE ha i) hB;have hUl:U<4294967296 ^ (i+1+b.length):=tD (tE ha (i+1)) hB
    let c:=λj=>(V%4294967296 ^ (i+j)+x*aB (b.take j)*4294967296 ^ i) / 4294967296 ^ (i+j)
    refine aC (λj=>(((c j:Nat):Int),(j:Int),dl U (i+j)++(dl V L).drop (i+j))) b.length ?_ (by omega) (λj hj K'=>?_) (λK'=>?_)
    · show((0:Int),(0:Int),dl V L)=_
      have h0:c 0=0:=by simp only[c,afy,show aB []=0 from rfl,aeC,aeL,adL];exact adK (adu _ (aen (by decide)))
      have hlow:dl U i=dl V i:=by
        have:∀ n,n<=i->dl U n=dl V n:=by
          intro n;induction n with
          | zero=>intro _; rfl
          | succ n ih=>
            intro hn;show dl U n++[_]=dl V n++[_];rw[ih (by omega)];congr 3;have:U=V+4294967296 ^ (n+1)*(x*B*4294967296 ^ (i - (n+1))):=by rw[hU,adG,<- ady,show n+1+(i - (n+1))=i by omega]
            exact k6 this
        exact this i (ads _)
      have hsp:dl V i++(dl V L).drop i=dl V L:=by
        have:∀ n,i<=n->dl V i++(dl V n).drop i=dl V n:=by
          intro n;induction n with
          | zero=>intro h; have:i=0:=(by omega); subst this; rfl
          | succ n ih=>
            intro h;by_cases hn:i=n+1
            · subst hn; rw[ad2 (by rw[al]; omega),adN]
            · show dl V i++(dl V n++[_]).drop i=dl V n++[_]
              rw[aeg (by rw[al]; omega),<- adx,ih (by omega)]
        exact this L (by simp only[L]; omega)
      rw[h0,adL,hlow,hsp]; rfl
    · have hy:=hb.at (i:=j)
      have hp:i+j<L:=by simp only[L]; omega
      have hlen:=xI U V L (i+j) (by omega);have hget:=Ew U V L (i+j) hp;have hset:=xJ U V L (i+j) hp;have hc:=J0 (V:=V) (x:=x) (i:=i) (k:=j) (Bk:=aB (b.take j)) (by simp only[x]; omega) (tE hb j);have hstep:=En V x (aB (b.take j)) (b.getD j 0).toNat i j;obtain⟨R,hR⟩:=bW b (j+1);have hdig:=Ch V x (aB (b.take j)) (b.getD j 0).toNat i j R;rw[<- pM]at hstep hdig;rw[<- hR]at hdig;have hUe:V+x*aB b*4294967296 ^ i=U:=hU.symm;rw[hUe]at hdig;have hxy:x*(b.getD j 0).toNat<=4294967295*4294967295:=ad7 (by simp only[x]; omega) (by omega);have eidx:Int.toNat ((i:Int)+(j:Int))=i+j:=by omega
      have hcj:∀ n,c n=(V%4294967296 ^ (i+n)+x*aB (b.take n)*4294967296 ^ i) / 4294967296 ^ (i+n):=λ_=>rfl
      have hax:a.getD i 0=(x:Int):=by simp only[x]; omega
      have hby:b.getD j 0=((b.getD j 0).toNat:Int):=by omega
      simp only[ke,adk,eidx,hlen,hget];rw[ade (by omega:(j:Int)<b.length),adh,aa adc,aa adc,aa adb,aa adc,aa (ade (by omega)),aa adb,aa adc,aa (ade (by omega)),aa adb];have ec1:c (j+1)=(c j+V / 4294967296 ^ (i+j)%4294967296+x*(b.getD j 0).toNat) / 4294967296:=hstep;have ed:U / 4294967296 ^ (i+j)%4294967296=(c j+V / 4294967296 ^ (i+j)%4294967296+x*(b.getD j 0).toNat)%4294967296:=hdig;have hcl:c j<4294967296:=hc;rw[ed]at hset;have vlt:V / 4294967296 ^ (i+j)%4294967296<4294967296:=adu _ (by decide);rw[hax,hby,show i+(j+1)=i+j+1 by omega,<- hset];generalize V / 4294967296 ^ (i+j)%4294967296=v at *;generalize (b.getD j 0).toNat=y at *;generalize dl U (i+j)++(dl V L).drop (i+j)=l at *;have et:∀ q:Nat,q=c j+v+x*y->IntKind.wrap .u64 ((IntKind.wrap .u64 ((IntKind.wrap .u64 ((IntKind.wrap .u64 (x:Int))*(IntKind.wrap .u64 (y:Int))))+(IntKind.wrap .u64 (v:Int))))+((c j:Nat):Int))=(q:Int):=by
        intro q hq;have exy:((x:Int))*(y:Int)=((x*y:Nat):Int):=by rw[adB]
        have hxl:x<4294967296:=by simp only[x]; omega
        have hyl:y<4294967296:=by omega
        have w1:IntKind.wrap .u64 (x:Int)=x:=by rw[am]; omega
        have w2:IntKind.wrap .u64 (y:Int)=y:=by rw[am]; omega
        rw[w1,w2,exy,am,am,am,am];omega
      rw[et _ rfl,ec1,jG,dk];congr 1
    · simp only[ke]
      rw[adf (by omega:¬(b.length:Int)<b.length),adg];have hlen:=xI U V L (i+b.length) (by simp only[L]; omega);have hset:=xJ U V L (i+b.length) (by simp only[L]; omega);have eidx:Int.toNat ((i:Int)+(b.length:Int))=i+b.length:=by omega
      have hLe:i+b.length<L:=by simp only[L]; omega
      have hc:c b.length=U / 4294967296 ^ (i+b.length):=by simp only[c];rw[adX,adp hV,hU]
      have hcl:U / 4294967296 ^ (i+b.length)<4294967296:=by
        rw[ado (aen (by decide))];have:i+1+b.length=i+b.length+1:=by omega
        rw[this,adr]at hUl;omega
      have ew:IntKind.wrap .u32 ((c b.length:Nat):Int)=((U / 4294967296 ^ (i+b.length)%4294967296:Nat):Int):=by rw[dk,hc]; omega
      have hfin:=Hu (U:=U) (V:=V) (L:=L) (p:=i+b.length+1) (by rw[show i+b.length+1=i+1+b.length by omega]; exact hUl) (by omega) (adz hV (adv (by decide) (by omega)));rw[aa adb,eidx,hlen,aa adc,aa (ade (by omega)),aa adb,ew,hset,hfin];rfl
  · simp only[kd]
    rw[adf (by omega:¬(a.length:Int)<a.length),adg,adX,dr _ (iN _ _) (by rw[al]; simp only[L]; omega) (by rw[al]; simp only[L]; omega)];rw[oJ (tD (eK ha) hB)]
theorem yb (g h:Bool) (m n:Nat):aS (g != h) (m*n)=aS g m*aS h n:=by unfold aS;rw[adB];cases g <;> cases h <;> simp[ags,aga]
theorem Ct (n:Nat):bM (ai n) (ai n).length=(ai n).length:=by
 have ht:(ai n).take (bM (ai n) (ai n).length)=ai n:=by rw[rn (aX n),aH]
 have hc:=jt (ai n) (ai n).length;have:=agr List.length ht;rw[adV]at this; omega
theorem MW (g:Bool) (n:Nat) (k:Ky3):cond ((!g)==true) (k (decide (((ai n).length:Int)>0)) (ai n)) (k false (ai n))=sw (-(aS g n)) k:=by rw[Ob,sa _ _ k];congr 1;unfold aS; cases g <;> simp
theorem Ae {N:Nat} (g:Bool) (n:Nat) (hN:fi N (ai n)) (k:Ky3):Lw N g (ai n) k=sw (-(aS g n)) k:=by
 (unfold Lw; rw[ac]; unfold Jw rg qn)
 obtain⟨h1,h2⟩:=hN;rw[ad4,ade (by omega),aek,kD _ (by omega) (by omega),Ct];simp only[aeO,adX];rw[ade (by omega:0+(ai n).length<=(ai n).length),aek];exact MW g n k
def aP (B:Nat) (n:Nat):Prop:=n<2 ^ B
theorem cz:∀(j n:Nat),n<4294967296 ^ j->(ai n).length<=j
 | 0,n,h=>by
  have:n=0:=by simp at h; exact h
  subst this; rw[aT]; exact ads _
 | j+1,n,h=>by
  by_cases h0:n=0
  ·subst h0; rw[aT]; simp
  ·rw[ce h0,adR];have:n / 4294967296<4294967296 ^ j:=afa (by rw[adr]at h; omega);have:=cz j _ this;omega
theorem Sx (j:Nat):4294967296 ^ j=2 ^ (32*j):=by rw[af_]
theorem xz {B n:Nat} (h:aP B n):(ai n).length<=B / 32+1:=by refine cz _ _ ?_;rw[Sx];exact adz h (adv (by decide) (by omega))
theorem Ek {N B n:Nat} (hN:1000<=N) (hB:B<=31000) (h:aP B n):fi N (ai n):=by have:=xz h;exact⟨by omega,by omega⟩
theorem bK {A B n:Nat} (h:aP A n) (hAB:A<=B):aP B n:=adz h (adv (by decide) hAB)
theorem dB {A B m n:Nat} (h:aP A m) (g:aP B n):aP (A+B) (m*n):=by unfold aP; rw[ady]; exact agw h g
theorem tf {A m:Nat} (h:aP A m) (s:Nat):aP (A+s) (m*2 ^ s):=by unfold aP; rw[ady]; exact ad5 h (adt s)
theorem ua {A m n:Nat} (h:aP A m) (g:aP A n):aP (A+1) (m+n):=by unfold aP at *; rw[adr]; omega
theorem kQ {A m n:Nat} (h:aP A m) (g:n<=m):aP A n:=aeR g h
theorem zQ {N B n s:Nat} (hN:1000<=N) (hB:B+s<=31000) (h:aP B n):SG N n s:=by have h1:=xz h;exact⟨by omega,by omega,by omega,Ek hN hB (tf h s)⟩
def exK (z:Int × Int) (k:Int->Bool->List Int->Bool):Bool:=k z.1 (decide (z.2<0)) (ai z.2.natAbs)
def wh (x y:Int × Int):Int × Int:=(x.1+y.1,x.2*y.2)
def NT (x:Int × Int):Int × Int:=(x.1,-x.2)
def qG (x:Int × Int) (e:Int):Int:=x.2*2 ^ (x.1 - e).toNat
def Gj (x y:Int × Int):Int × Int:=if x.2=0 then y else if y.2=0 then x else(min x.1 y.1,qG x (min x.1 y.1)+qG y (min x.1 y.1))
def Ex (E B:Nat) (x:Int × Int):Prop:=-(E:Int)<=x.1/\x.1<=E/\aP B x.2.natAbs
def uH (z:Int):Int:=if z=0 then 0 else if z<0 then -1 else 1
def ar:List Int->Nat
 | []=>0
 | x::r=>x.toNat+18446744073709551616*ar r
def InWq (m:List Int):Prop:=∀ x ∈ m,0<=x/\x<18446744073709551616
def ae (n:Nat):List Int:=if h:n=0 then[]else((n%18446744073709551616:Nat):Int)::ae (n / 18446744073709551616)
termination_by n
decreasing_by omega
theorem aZ:ae 0=[]:=by rw[ae]; simp
theorem bP {n:Nat} (h:n ≠ 0):ae n=((n%18446744073709551616:Nat):Int)::ae (n / 18446744073709551616):=by rw[ae]; simp[h]
theorem aR:∀ n,InWq (ae n):=by
 intro n;induction n using Nat.strongRecOn with
 | ind n ih=>
  by_cases h:n=0
  ·subst h; rw[aZ]; intro x hx; cases hx
  ·rw[bP h];intro x hx;rcases List.mem_cons.1 hx with rfl | hx
   ·omega
   ·exact ih (n / 18446744073709551616) (by omega) x hx
theorem aA:∀ n,ar (ae n)=n:=by
 intro n;induction n using Nat.strongRecOn with
 | ind n ih=>
  by_cases h:n=0
  ·subst h; rw[aZ]; rfl
  ·rw[bP h,ar,ih (n / 18446744073709551616) (by omega),adk];omega
theorem l5 (a b:List Int):ar (a++b)=ar a+18446744073709551616 ^ a.length*ar b:=by
 induction a with
 | nil=>simp[ar]
 | cons x r ih=>
  rw[ae1,ar,ih,ar,adR,adr,adw,adi (18446744073709551616 ^ r.length) 18446744073709551616,adq];omega
theorem InWq.take {m:List Int} (h:InWq m) (n:Nat):InWq (m.take n):=λx hx=>h x (afv hx)
theorem InWq.drop {m:List Int} (h:InWq m) (n:Nat):InWq (m.drop n):=λx hx=>h x (afZ hx)
theorem InWq.cons {x:Int} {m:List Int} (h:InWq (x::m)):(0<=x/\x<18446744073709551616)/\InWq m:=⟨h x (by simp),λy hy=>h y (by simp[hy])⟩
theorem InWq.at {m:List Int} (h:InWq m) {i:Nat}:0<=m.getD i 0/\m.getD i 0<18446744073709551616:=by
 rw[List.getD_eq_getElem?_getD];by_cases hi:i<m.length
 ·rw[List.getElem?_eq_getElem hi]; exact h _ (aey hi)
 ·rw[List.getElem?_eq_none (by omega)]; exact⟨by decide,by decide⟩
theorem ig:∀{m:List Int},InWq m->ar m<18446744073709551616 ^ m.length
 | [],_=>by simp[ar]
 | x::r,h=>by have ih:=ig h.cons.2;have hx:=h.cons.1;rw[ar,adR,adr];have:ar r+1<=18446744073709551616 ^ r.length:=ih;have:=adl 18446744073709551616 this;omega
theorem xF:∀{m:List Int},InWq m->(∀ x,m.getLast? = some x->x ≠ 0)->ae (ar m)=m
 | [],_,_=>aZ
 | [x],h,hl=>by
  have hx:=h.cons.1;have h0:x ≠ 0:=hl x rfl;have e:ar [x]=x.toNat:=by simp[ar]
  rw[e,bP (by omega),adK (by omega),aZ,adp (by omega),afC hx.1]
 | x::y::r,h,hl=>by
  have hx:=h.cons.1;have ih:=xF h.cons.2 (λz hz=>hl z (by rw[List.getLast?_cons_cons]; exact hz));have hne:ar (y::r) ≠ 0:=by intro h0;rw[h0,aZ]at ih; cases ih
  have e1:ar (x::y::r)=x.toNat+18446744073709551616*ar (y::r):=rfl;rw[e1,bP (by omega)];have e2:(x.toNat+18446744073709551616*ar (y::r))%18446744073709551616=x.toNat:=by omega
  have e3:(x.toNat+18446744073709551616*ar (y::r)) / 18446744073709551616=ar (y::r):=by omega
  rw[e2,e3,ih,afC hx.1]
theorem w5 {m:List Int} {i:Nat} (hi:i<m.length):ar (m.take (i+1))=ar (m.take i)+18446744073709551616 ^ i*(m.getD i 0).toNat:=by rw[aex hi,l5,adV,aeH (by omega),List.getD_eq_getElem?_getD,List.getElem?_eq_getElem hi];simp[ar]
theorem wZ (n:Nat):ar (List.replicate n 0)=0:=by
 induction n with
 | zero=>rfl
 | succ n ih=>rw[ad0,ar,ih]; rfl
def dlq (S:Nat):Nat->List Int
 | 0=>[]
 | n+1=>dlq S n++[((S / 18446744073709551616 ^ n%18446744073709551616:Nat):Int)]
theorem aj (S:Nat):∀ n,(dlq S n).length=n
 | 0=>rfl
 | n+1=>by simp[dlq,aj S n]
theorem gr (S:Nat):∀ n,InWq (dlq S n)
 | 0=>λx hx=>by cases hx
 | n+1=>λx hx=>by
  rcases List.mem_append.1 hx with h | h
  ·exact gr S n x h
  ·simp only[agi]at h;subst h;omega
theorem oa (S:Nat):∀ n,ar (dlq S n)=S%18446744073709551616 ^ n
 | 0=>by simp[dlq,ar,af7]
 | n+1=>by rw[dlq,l5,aj,oa S n,adr,af8];simp only[ar,adk,aeC,adL]
theorem rK (S n m:Nat) (h:n<m):(dlq S n++List.replicate (m - n) 0).set n ((S / 18446744073709551616 ^ n%18446744073709551616:Nat):Int)=dlq S (n+1)++List.replicate (m - (n+1)) 0:=by
 rw[afp _ _ (by rw[aj]; exact ads _),aj,adQ];have:m - n=(m - (n+1))+1:=by omega
 rw[this,ad0];simp[dlq]
theorem k8 {S n:Nat} (h:S<18446744073709551616 ^ n):ae (ar (dlq S n))=ae S:=by rw[oa,adp h]
theorem aI {m:List Int} (i:Nat):ar (m.take (i+1))=ar (m.take i)+18446744073709551616 ^ i*(m.getD i 0).toNat:=by
 by_cases h:i<m.length
 ·exact w5 h
 ·rw[dY (by omega),adC (by omega),adC (by omega)]; simp
theorem oG (b:List Int):∀ n,ar (b.take (bM b n))=ar (b.take n)
 | 0=>rfl
 | n+1=>by
  unfold bM;split
  ·rename_i h;rw[oG b n,aI,h]; simp
  ·rfl
theorem uK {b:List Int} (hb:InWq b):b.take (bM b b.length)=ae (ar b):=by have h1:=oG b b.length;rw[adX]at h1;rw[<- h1,xF (hb.take _) (qz b b.length (ads _))]
theorem cF (T A i:Nat):(T+18446744073709551616 ^ i*A) / 18446744073709551616 ^ i=T / 18446744073709551616 ^ i+A:=aeb _ _ (aen (by decide))
theorem Dk (m:List Int) (i:Nat):ar m=ar (m.take i)+18446744073709551616 ^ (m.take i).length*ar (m.drop i):=by rw[<- l5,afo]
theorem bw (m:List Int) (i:Nat):∃ R,ar m=ar (m.take i)+18446744073709551616 ^ i*R:=by
 by_cases h:i<=m.length
 ·refine⟨ar (m.drop i),?_⟩;have:=Dk m i
  rwa [adV,aeH h]at this
 ·exact⟨0,by rw[adC (by omega)]; simp⟩
theorem aN {m:List Int} (h:InWq m) (i:Nat):ar (m.take i)<18446744073709551616 ^ i:=by
 have h1:=ig (h.take i);have h2:(m.take i).length<=i:=by simp; omega
 exact adz h1 (adv (by decide) h2)
theorem ip {S T R i:Nat} (h:S=T+18446744073709551616 ^ (i+1)*R):S / 18446744073709551616 ^ i%18446744073709551616=T / 18446744073709551616 ^ i%18446744073709551616:=by rw[h,adr,adq,cF,aew]
theorem FB (i:Nat):0<18446744073709551616 ^ i:=aen (by decide)
theorem zW {P A B x y o R1 R2 D a b:Nat} (hA:A<P) (hB:B<P) (ho:o=if A<B then 1 else 0) (h1:a=A+P*x+P*18446744073709551616*R1) (h2:b=B+P*y+P*18446744073709551616*R2) (hD:(D:Int)=(a:Int) - (b:Int)) :
  ((D / P:Nat):Int)=(x:Int) - (y:Int) - (o:Int)+18446744073709551616*((R1:Int) - (R2:Int)):=by
 have he:∃ e:Nat,e<P/\(e:Int)=(A:Int) - (B:Int)+(P:Int)*(o:Int):=by
  rw[ho];split
  ·exact⟨A+P - B,by omega,by omega⟩
  ·exact⟨A - B,by omega,by omega⟩
 obtain⟨e,he1,he2⟩:=he;refine xY (e:=e) ?_ he1;have e1:(a:Int)=A+(P:Int)*x+18446744073709551616*((P:Int)*R1):=by rw[h1,adq,adG]; simp
 have e2:(b:Int)=B+(P:Int)*y+18446744073709551616*((P:Int)*R2):=by rw[h2,adq,adG]; simp
 have e3:(P:Int)*((x:Int) - (y:Int) - (o:Int)+18446744073709551616*((R1:Int) - (R2:Int)))=(P:Int)*x - (P:Int)*y - (P:Int)*o+(18446744073709551616*((P:Int)*R1) - 18446744073709551616*((P:Int)*R2)):=by rw[Int.mul_add,afD,afD,Int.mul_left_comm,afD,afD]
 rw[hD,e1,e2,e3,he2];omega
theorem de {x y:Nat} (h:x<=y):(ae x).length<=(ae y).length:=by
 induction y using Nat.strongRecOn generalizing x with
 | ind y ih=>
  by_cases hx:x=0
  ·subst hx; rw[aZ]; simp
  ·rw[bP hx,bP (by omega:y ≠ 0)];simp only[adR];have:=ih (y / 18446744073709551616) (by omega) (x:=x / 18446744073709551616) (afw h);omega
theorem qD:∀(w X:Nat),dlq (18446744073709551616 ^ w*X) w=List.replicate w 0:=by
 intro w;have key:∀ n,n<=w -> ∀ X,dlq (18446744073709551616 ^ w*X) n=List.replicate n 0:=by
  intro n;induction n with
  | zero=>intro _ X; rfl
  | succ n ih=>
   intro hn X;rw[dlq,ih (by omega),aeT];have e:18446744073709551616 ^ w*X=18446744073709551616 ^ n*(18446744073709551616*(18446744073709551616 ^ (w - n - 1)*X)):=by rw[<- adq,<- adq,<- adr,<- ady];congr 2; omega
   rw[e,adP _ (FB n),ago];rfl
 exact key w (ads _)
theorem fu:∀(j n:Nat),n<18446744073709551616 ^ j->(ae n).length<=j
 | 0,n,h=>by
  have:n=0:=by simp at h; exact h
  subst this; rw[aZ]; exact ads _
 | j+1,n,h=>by
  by_cases h0:n=0
  ·subst h0; rw[aZ]; simp
  ·rw[bP h0,adR];have:n / 18446744073709551616<18446744073709551616 ^ j:=afa (by rw[adr]at h; omega);have:=fu j _ this;omega
theorem Dj (V x Bk bk i k:Nat):V%18446744073709551616 ^ (i+k+1)+x*(Bk+18446744073709551616 ^ k*bk)*18446744073709551616 ^ i=(V%18446744073709551616 ^ (i+k)+x*Bk*18446744073709551616 ^ i)+18446744073709551616 ^ (i+k)*(V / 18446744073709551616 ^ (i+k)%18446744073709551616+x*bk):=by rw[Nat.mod_pow_succ,ady];grind
theorem Ci (V x Bk bk i k:Nat):(V%18446744073709551616 ^ (i+k+1)+x*(Bk+18446744073709551616 ^ k*bk)*18446744073709551616 ^ i) / 18446744073709551616 ^ (i+k+1)=((V%18446744073709551616 ^ (i+k)+x*Bk*18446744073709551616 ^ i) / 18446744073709551616 ^ (i+k)+V / 18446744073709551616 ^ (i+k)%18446744073709551616+x*bk) / 18446744073709551616:=by rw[Dj,adr,<- adm,aeb _ _ (aen (by decide)),adY]
theorem AX (V x Bk bk i k R:Nat):(V+x*(Bk+18446744073709551616 ^ k*bk+18446744073709551616 ^ (k+1)*R)*18446744073709551616 ^ i) / 18446744073709551616 ^ (i+k)%18446744073709551616=((V%18446744073709551616 ^ (i+k)+x*Bk*18446744073709551616 ^ i) / 18446744073709551616 ^ (i+k)+V / 18446744073709551616 ^ (i+k)%18446744073709551616+x*bk)%18446744073709551616:=by
 have e:V+x*(Bk+18446744073709551616 ^ k*bk+18446744073709551616 ^ (k+1)*R)*18446744073709551616 ^ i=(V%18446744073709551616 ^ (i+k+1)+x*(Bk+18446744073709551616 ^ k*bk)*18446744073709551616 ^ i)+18446744073709551616 ^ (i+k+1)*(V / 18446744073709551616 ^ (i+k+1)+x*R):=by
  have h:=aee V (18446744073709551616 ^ (i+k+1));have h2:18446744073709551616 ^ (i+k+1)=18446744073709551616 ^ (k+1)*18446744073709551616 ^ i:=by rw[<- ady]; congr 1; omega
  generalize V / 18446744073709551616 ^ (i+k+1)=q at *;generalize V%18446744073709551616 ^ (i+k+1)=r at *;rw[<- h,h2];grind
 rw[ip e,Dj,aeb _ _ (aen (by decide)),adY]
theorem Hp {V x Bk i k:Nat} (hx:x<18446744073709551616) (hB:Bk<18446744073709551616 ^ k):(V%18446744073709551616 ^ (i+k)+x*Bk*18446744073709551616 ^ i) / 18446744073709551616 ^ (i+k)<18446744073709551616:=by
 rw[ado (aen (by decide))];have h1:V%18446744073709551616 ^ (i+k)<18446744073709551616 ^ (i+k):=adu _ (aen (by decide));have h2:x*Bk<=18446744073709551615*18446744073709551616 ^ k:=ad7 (by omega) (by omega);have h3:x*Bk*18446744073709551616 ^ i<=18446744073709551615*18446744073709551616 ^ (i+k):=by
  have:=adl (18446744073709551616 ^ i) h2
  rwa [adq 18446744073709551615,<- ady,ae9 k i]at this
 omega
theorem qC (S:Nat) {L i:Nat} (h:i<L):(dlq S L).getD i 0=((S / 18446744073709551616 ^ i%18446744073709551616:Nat):Int):=by
 induction L with
 | zero=>omega
 | succ L ih=>
  show((dlq S L)++[_]).getD i 0=_;rw[List.getD_eq_getElem?_getD];by_cases hi:i<L
  ·rw[List.getElem?_append_left (by rw[aj]; exact hi),<- List.getD_eq_getElem?_getD,ih hi]
  ·have:i=L:=by omega
   subst this;rw[List.getElem?_append_right (by rw[aj]; exact ads _),aj,adQ]; rfl
theorem ob {b:List Int} {k:Nat}:ar (b.take (k+1))=ar (b.take k)+18446744073709551616 ^ k*(b.getD k 0).toNat:=aI k
theorem wc (U V L p:Nat) (h:p<L):(dlq U p++(dlq V L).drop p).set p ((U / 18446744073709551616 ^ p%18446744073709551616:Nat):Int)=dlq U (p+1)++(dlq V L).drop (p+1):=by rw[cV (by rw[aj]; exact h),aW _ _ _ _ _ (by rw[aj])];show _=(dlq U p++[_])++_;rw[adx]; rfl
theorem CB (U V L p:Nat) (h:p<L):(dlq U p++(dlq V L).drop p).getD p 0=((V / 18446744073709551616 ^ p%18446744073709551616:Nat):Int):=by rw[cV (by rw[aj]; exact h),bU (by rw[aj]),qC V h]
theorem wb (U V L p:Nat) (h:p<=L):(dlq U p++(dlq V L).drop p).length=L:=by simp[aj]; omega
theorem Ev {U L p:Nat} (hU:U<18446744073709551616 ^ p) (h:p<=L) {V:Nat} (hV:V<18446744073709551616 ^ p):dlq U p++(dlq V L).drop p=dlq U L:=by
 induction L with
 | zero=>
  have:p=0:=by omega
  subst this; rfl
 | succ L ih=>
  by_cases hp:p=L+1
  ·subst hp; rw[ad2 (by rw[aj]; omega),adN]
  ·have hpL:p<=L:=by omega
   have e:∀ X,X<18446744073709551616 ^ p->dlq X (L+1)=dlq X L++[0]:=by intro X hX;show dlq X L++[((X / 18446744073709551616 ^ L%18446744073709551616:Nat):Int)]=_;rw[adK (adz hX (adv (by decide) hpL))]; rfl
   rw[e V hV,e U hU,aeg (by rw[aj]; exact hpL),<- adx,ih hpL]
theorem qP {a:List Int} (ha:InWq a) (i:Nat):ar (a.take i)<18446744073709551616 ^ i:=aN ha i
theorem qN {x y i j:Nat} (hx:x<18446744073709551616 ^ i) (hy:y<18446744073709551616 ^ j):x*y<18446744073709551616 ^ (i+j):=by rw[ady];exact agw hx hy
def kt (N:Nat) (l:List Int):Prop:=l.length+3<N/\l.length<=1099511627776
theorem yo {N:Nat} (b:List Int) (hN:b.length<N) (hs:b.length<9223372036854775807) (k:Kz3):uC N b k=k (bM b b.length):=by
 (unfold uC; rw[ac]; unfold OW)
 have key:∀ n,n<=b.length -> ∀ M,n<M->ak M (tQ N b λVr=>((decide (0<=Vr/\Vr<=(((List.length b):Nat):Int)))&&(k ((Int.toNat Vr) - 0)))) (n:Int)=k (bM b n):=by
  intro n;induction n with
  | zero=>
   intro _ M hM;cases M with
   | zero=>omega
   | succ M=>
    show tQ N b _ ((0:Nat):Int) _=_;simp only[tQ,bM];rw[adf (by omega:¬((0:Nat):Int)>0),show(false==true)=false from rfl,adg,ade (by omega),aek];rfl
  | succ n ih=>
   intro hn M hM;cases M with
   | zero=>omega
   | succ M=>
    show tQ N b _ ((n+1:Nat):Int) (ak M _)=_;have e:Int.toNat (((n+1:Nat):Int) - 1)=n:=by omega
    have e2:((n+1:Nat):Int) - 1=(n:Int):=by omega
    simp only[tQ,e];rw[ade (by omega:((n+1:Nat):Int)>0),show(true==true)=true from rfl,adh,aa adb,aa adc,aa (ade (by omega)),aa adb,e2,ih (by omega) M (by omega),mX];by_cases h0:b.getD n 0=0
    ·have:(b.getD n 0==0)=true:=by simpa using h0
     rw[this,if_pos h0]; rfl
    ·have:(b.getD n 0==0)=false:=by simpa using h0
     rw[this,if_neg h0,adg,ade (by omega),aek];rfl
 exact key b.length (ads _) N hN
theorem jM {N:Nat} (b:List Int) (hb:InWq b) (hN:b.length<N) (hs:b.length<9223372036854775807) (k:Kz6) :
  (uC N b λl=>(decide (0+l<=b.length))&&k (List.take l (List.drop 0 b)))=k (ae (ar b)):=by
 rw[yo b hN hs,aeO,uK hb];have:=jt b b.length;rw[ade (by omega)]; rfl
theorem rQ {N:Nat} (hN:1000<=N) (n:Nat) (hn:n<18446744073709551616) (k:Kz6):jm N (n:Int) k=k (ae n):=by
 unfold jm xk;have hw:InWq [(n:Int)]:=by intro x hx;simp only[aeF,aff,or_false]at hx;subst hx; omega
 have hv:ar [(n:Int)]=n:=by simp only[ar]; omega
 have:=jM (N:=N) [(n:Int)] hw (by simp; omega) (by simp) k;rw[hv]at this;exact this
theorem vq {N:Nat} (l:List Int) (h:l.length<=1099511627776) (k:Kz6):pR N l k=k l:=by unfold pR ND;rw[ad4,ade (by omega),aek]
theorem me (N:Nat) (l:List Int) (i:Nat) (hi:i<9223372036854775807) (k:Kz2):wJ N l (i:Int) k=k (l.getD i 0):=by
 unfold wJ NJ;by_cases h:i<l.length
 ·rw[ade (by omega:(i:Int)<((l.length:Nat):Int)),adh,aa adc,adk]
 ·rw[adf (by omega:¬(i:Int)<((l.length:Nat):Int)),adg,dY (by omega)]
theorem mb (N:Nat) {x y c:Int} {a b d:Nat} (hx:x=(a:Int)) (hy:y=(b:Int)) (hz:c=(d:Int)) (hc:d<=1) (k:Ky4):sQ6 N x y c k=k (((a+b+d)%18446744073709551616:Nat):Int) (((a+b+d) / 18446744073709551616:Nat):Int):=by subst hx hy hz;show(decide (Int.toNat (d:Int)<=1)&&_)=_;rw[adk,ade hc]; rfl
theorem vp (N:Nat) {x y c:Int} {a b d:Nat} (hx:x=(a:Int)) (hy:y=(b:Int)) (hz:c=(d:Int)) (hc:d<=1) (k:Ky4):sQ9 N x y c k=k (((a+18446744073709551616 - b - d)%18446744073709551616:Nat):Int) (if a<b+d then 1 else 0):=by
 subst hx hy hz;show(decide (Int.toNat (d:Int)<=1)&&_)=_;rw[adk,ade hc];show k _ (cond (decide (a<b+d)) 1 0)=_;by_cases h:a<b+d
 ·rw[ade h,if_pos h]; rfl
 ·rw[adf h,if_neg h]; rfl
theorem MA (a b:Nat):imm true (a:Int) (b:Int)=((max a b:Nat):Int):=by
 unfold imm; simp only[adh];by_cases h:(b:Int)>a
 ·rw[ade h,adh]; omega
 ·rw[adf h,adg]; omega
theorem KN {N:Nat} (a b:List Int) (ha:InWq a) (hb:InWq b) (hNa:kt N a) (hNb:kt N b) (k:Kz6):vA N a b k=k (ae (ar a+ar b)):=by
 (unfold vA; rw[ac]; unfold uN)
 obtain⟨a1,a2⟩:=hNa;obtain⟨b1,b2⟩:=hNb;rw[MA]
 let L:=max a.length b.length
 have hLa:a.length<=L:=Nat.le_max_left _ _;have hLb:b.length<=L:=Nat.le_max_right _ _;have hLN:L+3<N:=by simp only[L]; omega
 have hLs:L<=1099511627776:=by simp only[L]; omega
 show(ah .i64 ((L:Int)+1)&&_)=_;have eL:Int.toNat ((L:Int)+1)=L+1:=by omega
 rw[aa adb,aa (bY (by omega) (by omega) (by omega) (by omega)),eL]
 let S:=ar a+ar b
 let T:=λi=>ar (a.take i)+ar (b.take i)
 refine aC (λi=>(((T i / 18446744073709551616 ^ i:Nat):Int),(i:Int),dlq S i++List.replicate (L+1 - i) 0)) L (by simp[T,ar,dlq]) (by omega) (λi hi K=>?_) (λK=>?_)
 ·have hx:=ha.at (i:=i);have hy:=hb.at (i:=i);have hT:T (i+1)=T i+18446744073709551616 ^ i*((a.getD i 0).toNat+(b.getD i 0).toNat):=by simp only[T,aI,adw]; omega
  have hq:T (i+1) / 18446744073709551616 ^ i=T i / 18446744073709551616 ^ i+((a.getD i 0).toNat+(b.getD i 0).toNat):=by rw[hT,cF]
  have hc:T i / 18446744073709551616 ^ i<=1:=by
   have h1:=aN ha i;have h2:=aN hb i;have h3:T i<18446744073709551616 ^ i*2:=by simp only[T]; omega
   have:=(ado (aen (n:=i) (by decide:0<18446744073709551616))).2 (by rw[adi]; exact h3:T i<2*18446744073709551616 ^ i);omega
  have hdiv:T (i+1) / 18446744073709551616 ^ (i+1)=T (i+1) / 18446744073709551616 ^ i / 18446744073709551616:=by rw[adr,adm]
  have hdig:S / 18446744073709551616 ^ i%18446744073709551616=T (i+1) / 18446744073709551616 ^ i%18446744073709551616:=by obtain⟨R1,h1⟩:=bw a (i+1);obtain⟨R2,h2⟩:=bw b (i+1);refine ip (R:=R1+R2) ?_;simp only[S,T];rw[adw]; omega
  have hset:=rK S i (L+1) (by omega);have hlen:(dlq S i++List.replicate (L+1 - i) 0).length=L+1:=by simp[aj]; omega
  simp only[l9];rw[ade (by omega:(i:Int)<((max a.length b.length:Nat):Int)),adh,me N a i (by omega),me N b i (by omega),mb N (a:=(a.getD i 0).toNat) (b:=(b.getD i 0).toNat) (d:=T i / 18446744073709551616 ^ i) (by omega) (by omega) rfl hc,hlen,aa adc,aa (ade (by omega)),aa adb,adk];have e1:(a.getD i 0).toNat+(b.getD i 0).toNat+T i / 18446744073709551616 ^ i=T (i+1) / 18446744073709551616 ^ i:=by rw[hq]; omega
  rw[e1,<- hdig,<- hdiv,hset];rfl
 ·simp only[l9];rw[adf (by omega:¬(L:Int)<((max a.length b.length:Nat):Int)),adg];have hT:T L=S:=by simp only[T,S]; rw[adC hLa,adC hLb]
  have hS:S<18446744073709551616 ^ (L+1):=by have h1:=aN ha L;have h2:=aN hb L;rw[adC hLa]at h1;rw[adC hLb]at h2;rw[adr];simp only[S]; omega
  have hlen:(dlq S L++List.replicate (L+1 - L) 0).length=L+1:=by simp[aj]
  have hcl:S / 18446744073709551616 ^ L<18446744073709551616:=by rw[ado (aen (by decide)),adi,<- adr]; exact hS
  have e2:((T L / 18446744073709551616 ^ L:Nat):Int)=((S / 18446744073709551616 ^ L%18446744073709551616:Nat):Int):=by rw[hT,adp hcl]
  have hset:=rK S L (L+1) (by omega);rw[e2,adk,hset,hlen,aa adc,aa (ade (by omega)),adQ,adS,adN,
   jM _ (gr S _) (by rw[aj]; omega) (by rw[aj]; omega),k8 hS]
theorem mc {N:Nat} (a b:List Int) (ha:InWq a) (hb:InWq b) (hle:ar b<=ar a) (hN:kt N a) (k:Kz6):wK N a b k=k (ae (ar a - ar b)):=by
 obtain⟨hN1,hN2⟩:=hN
 (unfold wK; rw[ac]; unfold JA)
 rw[aa (bY (by omega) (by omega) (by omega) (by omega)),adk]
 let D:=ar a - ar b
 let bo:=λi=>if ar (a.take i)<ar (b.take i)then(1:Nat)else 0
 refine aC (λi=>(((bo i:Nat):Int),(i:Int),dlq D i++List.replicate (a.length - i) 0)) a.length (by simp[bo,ar,dlq]) (by omega) (λi hi K=>?_) (λK=>?_)
 ·have hx:=ha.at (i:=i);have hy:=hb.at (i:=i);have hA:=aI (m:=a) i;have hB:=aI (m:=b) i;have hAl:=aN ha i;have hBl:=aN hb i;have hset:=rK D i a.length (by omega);have hl:(dlq D i++List.replicate (a.length - i) 0).length=a.length:=by simp[aj]; omega
  obtain⟨R1,h1⟩:=bw a (i+1);obtain⟨R2,h2⟩:=bw b (i+1);have hD:(D:Int)=(ar a:Int) - (ar b:Int):=by simp only[D]; omega
  have hPs:18446744073709551616 ^ (i+1)=18446744073709551616 ^ i*18446744073709551616:=adr ..;have hbo:bo i<=1:=by simp only[bo]; split <;> omega
  have hbs:bo (i+1)=if (a.getD i 0).toNat<(b.getD i 0).toNat+bo i then 1 else 0:=by simp only[bo,hA,hB];exact mV _ _ _ _ _ hAl hBl
  have hq:((D / 18446744073709551616 ^ i:Nat):Int)=((a.getD i 0).toNat:Int) - ((b.getD i 0).toNat:Int) - (bo i:Int)+18446744073709551616*((R1:Int) - (R2:Int)):=by rw[hA,hPs]at h1;rw[hB,hPs]at h2;exact zW hAl hBl rfl h1 h2 hD
  have hdig:((D / 18446744073709551616 ^ i%18446744073709551616:Nat):Int)=(((a.getD i 0).toNat:Int) - ((b.getD i 0).toNat:Int) - (bo i:Int))%18446744073709551616:=by rw[Int.natCast_emod,hq];exact Int.add_mul_emod_self_left _ _ _
  simp only[kV];rw[ade (by omega:(i:Int)<a.length),adh,aa adc,me N b i (by omega),adk,vp N (a:=(a.getD i 0).toNat) (b:=(b.getD i 0).toNat) (d:=bo i) (by omega) (by omega) rfl hbo,hl,aa adc,aa (ade (by omega)),aa adb];have e1:(((((a.getD i 0).toNat+18446744073709551616 - (b.getD i 0).toNat - bo i)%18446744073709551616:Nat)):Int)=((D / 18446744073709551616 ^ i%18446744073709551616:Nat):Int):=by rw[hdig]; omega
  have e2:(if (a.getD i 0).toNat<(b.getD i 0).toNat+bo i then(1:Int)else 0)=((bo (i+1):Nat):Int):=by rw[hbs]; split <;> rfl
  rw[e1,e2,hset];rfl
 ·simp only[kV];rw[adf (by omega:¬(a.length:Int)<a.length),adg,adQ,adS,adN];have hS:D<18446744073709551616 ^ a.length:=by have:=ig ha; simp only[D]; omega
  rw[jM _ (gr D _) (by rw[aj]; omega) (by rw[aj]; omega),k8 hS]
theorem zp {N:Nat} (a b:List Int) (ha:InWq a) (hb:InWq b) (hl:a.length=b.length) (hs:a.length<9223372036854775807) (k:Kz2) :
  ∀ n,n<=a.length -> ∀ M,n<M->ak M (tN N a b (λt4=>k t4) (k 0)) ((n:Int) - 1)=k (dC (ar (a.take n)) (ar (b.take n))):=by
 intro n;induction n with
 | zero=>
  intro _ M hM;cases M with
  | zero=>omega
  | succ M=>
   show tN N a b _ _ ((0:Nat) - 1:Int) _=_;simp[tN,dC,ar]
 | succ n ih=>
  intro hn M hM;cases M with
  | zero=>omega
  | succ M=>
   show tN N a b _ _ (((n+1:Nat):Int) - 1) (ak M _)=_;have e:(((n+1:Nat):Int) - 1)=(n:Int):=by omega
   have hx:=ha.at (i:=n);have hy:=hb.at (i:=n);have hA:=aI (m:=a) n;have hB:=aI (m:=b) n;have hAl:=aN ha n;have hBl:=aN hb n;rw[e];simp only[tN,adk];rw[hA,hB,ade (by omega:(n:Int)>=0),adh,aa adc,aa adc,aa adc,aa adc,aa adb,ih (by omega) M (by omega)];by_cases h0:a.getD n 0=b.getD n 0
   ·rw[show(a.getD n 0 != b.getD n 0)=false by simpa using h0,adg,h0,Cl]
   ·rw[show(a.getD n 0 != b.getD n 0)=true by simpa using h0,adh];by_cases h1:a.getD n 0<b.getD n 0
    ·rw[ade h1,adh,J2 hAl (by omega)]
    ·rw[adf h1,adg,J1 hBl (by omega)]
theorem iu {N:Nat} (x y:Nat) (hx:kt N (ae x)) (hy:kt N (ae y)) (k:Kz2):AB N (ae x) (ae y) k=k (dC x y):=by
 (unfold AB; rw[ac]; unfold Jh)
 obtain⟨x1,x2⟩:=hx;obtain⟨y1,y2⟩:=hy;by_cases h:(ae x).length=(ae y).length
 ·have e:(((ae x).length:Int) != (ae y).length)=false:=by rw[h]; simp
  rw[e,adg,aa adb,zp (ae x) (ae y) (aR x) (aR y) h (by omega) k _ (ads _) N (by omega),adX,h,adX,aA,aA]
 ·have e:(((ae x).length:Int) != (ae y).length)=true:=by simp; omega
  rw[e,adh];by_cases h1:(ae x).length<(ae y).length
  ·rw[ade (by omega),adh];have:x<y:=by
    rcases aef x y with h2 | h2
    ·exact h2
    ·have:=de h2; omega
   unfold dC; rw[if_pos this]
  ·rw[adf (by omega),adg];have:¬ x<=y:=λh2=>by have:=de h2; omega
   unfold dC; rw[if_neg (by omega),if_neg (by omega)]
def qI (z:Int) (k:Ky3):Bool:=k (decide (z<0)) (ae z.natAbs)
theorem nO (n:Nat):decide (((ae n).length:Int)>0)=decide (n ≠ 0):=by
 by_cases h:n=0
 ·subst h; rw[aZ]; simp
 ·rw[bP h,adR,ade (by omega),ade h]
theorem Du (g:Bool) (n:Nat) (k:Ky3):k (sg g n) (ae n)=qI (aS g n) k:=by
 unfold qI aS sg;cases g
 ·simp only[aet,adM,afQ,aea];rw[adf (by omega)]
 ·simp only[aeQ,aek,afR,aea];congr 1;by_cases h:n=0
  ·subst h; rfl
  ·rw[ade h,ade (by omega)]
theorem K3 (g:Bool) (n:Nat) (k:Ky3):cond (g==true) (k (decide (((ae n).length:Int)>0)) (ae n)) (k false (ae n))=qI (aS g n) k:=by rw[nO,<- Du];cases g <;> rfl
theorem E4 {N:Nat} (g b:Bool) (n:Nat) (k:Ky3):BD N g (ae n) b (λcr=>k cr (ae n))=qI (aS g n) k:=K3 g n k
theorem mC {N:Nat} (g b:Bool) (l:List Int) (n:Nat) (k:Ky3):IB N g (ae n) b l (λcr=>k cr (ae n))=qI (aS g n) k:=K3 g n k
theorem FV (g1 g2:Bool) (n1 n2:Nat) (k:Ky3) :
  cond (g1==g2) (qI (aS g2 (n1+n2)) k) (cond (decide (dC n1 n2>=0)) (qI (aS g1 (n1 - n2)) k) (qI (aS g2 (n2 - n1)) k))=qI (aS g1 n1+aS g2 n2) k:=by
 rw[rH];have key:∀ a b:Int,a=b->qI a k=qI b k:=λa b h=>by rw[h]
 cases g1 <;> cases g2 <;> simp only[aS] <;> by_cases h:n2<=n1 <;> simp only[h,af2,agh,adh,adg,ae0,aet,aeQ,adM,(by decide:(false==true)=false),(by decide:(true==false)=false)] <;> refine key _ _ ?_ <;> omega
theorem Ca (n:Nat):az .and .u64 (n:Int) 4294967295=((n%4294967296:Nat):Int):=by
 have h:=jF n 32 (by decide);have e1:((2 ^ 32 - 1:Nat):Int)=4294967295:=by decide
 have e2:(2:Nat) ^ 32=4294967296:=by decide
 rw[e1,e2]at h;exact h
theorem QZ (p00 p10 p01 p11:Nat):(p11*18446744073709551616+(p10+p01)*4294967296+p00) / 18446744073709551616=p11+(p10+p00 / 4294967296) / 4294967296+((p10+p00 / 4294967296)%4294967296+p01) / 4294967296:=by omega
theorem Ii (x y:Nat):x*y=(x / 4294967296)*(y / 4294967296)*18446744073709551616+((x / 4294967296)*(y%4294967296)+(x%4294967296)*(y / 4294967296))*4294967296+(x%4294967296)*(y%4294967296):=by have hx:=aee x 4294967296;have hy:=aee y 4294967296;generalize x / 4294967296=a at *;generalize x%4294967296=b at *;generalize y / 4294967296=c at *;generalize y%4294967296=d at *;subst hx hy;grind
theorem vo (N:Nat) {x y:Nat} (hx:x<18446744073709551616) (hy:y<18446744073709551616) (k:Ky4):DD N (x:Int) (y:Int) k=k ((x*y / 18446744073709551616:Nat):Int) ((x*y%18446744073709551616:Nat):Int):=by
 (unfold DD; rw[ac]; unfold Je)
 have fx:Int.fdiv (x:Int) (2 ^ 32)=((x / 4294967296:Nat):Int):=by rw[jG]; rfl
 have fy:Int.fdiv (y:Int) (2 ^ 32)=((y / 4294967296:Nat):Int):=by rw[jG]; rfl
 rw[Ca,Ca,fx,fy];have hs:=Ii x y;have b0:x / 4294967296<=4294967295:=by omega
 have b1:x%4294967296<=4294967295:=by omega
 have b2:y / 4294967296<=4294967295:=by omega
 have b3:y%4294967296<=4294967295:=by omega
 have m00:=ad7 b1 b3;have m10:=ad7 b0 b3;have m01:=ad7 b1 b2;have m11:=ad7 b0 b2;have hh:=QZ ((x%4294967296)*(y%4294967296)) ((x / 4294967296)*(y%4294967296)) ((x%4294967296)*(y / 4294967296)) ((x / 4294967296)*(y / 4294967296));rw[<- hs]at hh;rw[<- adB,<- adB,<- adB,<- adB,<- adB];have hlt:x*y<=18446744073709551615*18446744073709551615:=ad7 (by omega) (by omega);generalize x*y=P at *;generalize (x%4294967296)*(y%4294967296)=p00 at *;generalize (x / 4294967296)*(y%4294967296)=p10 at *;generalize (x%4294967296)*(y / 4294967296)=p01 at *;generalize (x / 4294967296)*(y / 4294967296)=p11 at *;have t1:IntKind.wrap .u64 (IntKind.wrap .u64 (p10:Int)+Int.fdiv (IntKind.wrap .u64 (p00:Int)) (2 ^ 32))=((p10+p00 / 4294967296:Nat):Int):=by simp only[am,jG]; omega
 rw[t1,Ca];congr 1
 ·rw[hh];simp only[am,jG];omega
theorem ym (N:Nat) {x y c d:Int} {a b e f:Nat} (hx:x=(a:Int)) (hy:y=(b:Int)) (hc:c=(e:Int)) (hd:d=(f:Int)) (ha:a<18446744073709551616) (hb:b<18446744073709551616) (he:e<18446744073709551616) (hf:f<18446744073709551616) (k:Ky4) :
  kH N x y c d k=k (((a*b+e+f) / 18446744073709551616:Nat):Int) (((a*b+e+f)%18446744073709551616:Nat):Int):=by
 subst hx hy hc hd
 (unfold kH; rw[ac]; unfold sP)
 have hlt:a*b<=18446744073709551615*18446744073709551615:=ad7 (by omega) (by omega);rw[vo N ha hb];generalize a*b=P at *;rw[mb N (c:=0) (a:=P%18446744073709551616) (b:=e) (d:=0) rfl rfl rfl (by omega),mb N (c:=0) (a:=(P%18446744073709551616+e+0)%18446744073709551616) (b:=f) (d:=0) rfl rfl rfl (by omega)];congr 1
 ·simp only[am]; omega
 ·omega
theorem EW {N:Nat} (a b:List Int) (ha:InWq a) (hb:InWq b) (hN:a.length+b.length+2<N) (hs:a.length+b.length<=1099511627776) (k:Kz6):pP N a b k=k (ae (ar a*ar b)):=by
  (unfold pP; rw[ac]; unfold I1)
  by_cases a0:a.length=0
  · have:a=[]:=List.length_eq_zero_iff.1 a0
    subst this;show k []=k (ae (0*ar b));rw[aeL,aZ]
  by_cases b0:b.length=0
  · have:b=[]:=List.length_eq_zero_iff.1 b0
    subst this;have e:(((a.length:Nat):Int)==0)=false:=by simp; intro h; subst h; simp at a0
    rw[e,show(false==false)=true from rfl,adh];show k []=k (ae (ar a*0));rw[aeC,aZ]
  have e0:(((a.length:Nat):Int)==0)=false:=by simp; intro h; subst h; simp at a0
  have e1:(((b.length:Nat):Int)==0)=false:=by simp; intro h; subst h; simp at b0
  rw[e0,e1,show(false==false)=true from rfl,adh,adg];have eL:Int.toNat (((a.length:Nat):Int)+((b.length:Nat):Int))=a.length+b.length:=by omega
  rw[aa adb,aa (bY (by omega) (by omega) (by omega) (by omega)),eL]
  let L:=a.length+b.length
  let B:=ar b
  have hB:B<18446744073709551616 ^ b.length:=ig hb;refine aC (λi=>((i:Int),dlq (ar (a.take i)*B) L)) a.length ?_ (by omega) (λi hi K=>?_) (λK=>?_)
  · show((0:Int),List.replicate L (0:Int))=(((0:Nat):Int),dlq (ar (a.take 0)*B) L)
    have:=qD L 0;rw[aeC]at this;rw[afy,show ar []=0 from rfl,aeL,this]; rfl
  · simp only[j9]
    rw[ade (by omega:(i:Int)<a.length),adh,aa adc,adk];have hx:=ha.at (i:=i)
    let V:=ar (a.take i)*B
    let x:=(a.getD i 0).toNat
    let U:=ar (a.take (i+1))*B
    have hU:U=V+x*B*18446744073709551616 ^ i:=by simp only[U,V,x];rw[ob];grind
    have hV:V<18446744073709551616 ^ (i+b.length):=qN (qP ha i) hB;have hUl:U<18446744073709551616 ^ (i+1+b.length):=qN (qP ha (i+1)) hB
    let c:=λj=>(V%18446744073709551616 ^ (i+j)+x*ar (b.take j)*18446744073709551616 ^ i) / 18446744073709551616 ^ (i+j)
    refine aC (λj=>(((c j:Nat):Int),(j:Int),dlq U (i+j)++(dlq V L).drop (i+j))) b.length ?_ (by omega) (λj hj K'=>?_) (λK'=>?_)
    · show((0:Int),(0:Int),dlq V L)=_
      have h0:c 0=0:=by simp only[c,afy,show ar []=0 from rfl,aeC,aeL,adL];exact adK (adu _ (aen (by decide)))
      have hlow:dlq U i=dlq V i:=by
        have:∀ n,n<=i->dlq U n=dlq V n:=by
          intro n;induction n with
          | zero=>intro _; rfl
          | succ n ih=>
            intro hn;show dlq U n++[_]=dlq V n++[_];rw[ih (by omega)];congr 3;have:U=V+18446744073709551616 ^ (n+1)*(x*B*18446744073709551616 ^ (i - (n+1))):=by rw[hU,adG,<- ady,show n+1+(i - (n+1))=i by omega]
            exact ip this
        exact this i (ads _)
      have hsp:dlq V i++(dlq V L).drop i=dlq V L:=by
        have:∀ n,i<=n->dlq V i++(dlq V n).drop i=dlq V n:=by
          intro n;induction n with
          | zero=>intro h; have:i=0:=(by omega); subst this; rfl
          | succ n ih=>
            intro h;by_cases hn:i=n+1
            · subst hn; rw[ad2 (by rw[aj]; omega),adN]
            · show dlq V i++(dlq V n++[_]).drop i=dlq V n++[_]
              rw[aeg (by rw[aj]; omega),<- adx,ih (by omega)]
        exact this L (by simp only[L]; omega)
      rw[h0,adL,hlow,hsp]; rfl
    · have hy:=hb.at (i:=j)
      have hp:i+j<L:=by simp only[L]; omega
      have hlen:=wb U V L (i+j) (by omega);have hget:=CB U V L (i+j) hp;have hset:=wc U V L (i+j) hp;have hc:=Hp (V:=V) (x:=x) (i:=i) (k:=j) (Bk:=ar (b.take j)) (by simp only[x]; omega) (qP hb j);have hstep:=Ci V x (ar (b.take j)) (b.getD j 0).toNat i j;obtain⟨R,hR⟩:=bw b (j+1);have hdig:=AX V x (ar (b.take j)) (b.getD j 0).toNat i j R;rw[<- ob]at hstep hdig;rw[<- hR]at hdig;have hUe:V+x*ar b*18446744073709551616 ^ i=U:=hU.symm;rw[hUe]at hdig;have hxy:x*(b.getD j 0).toNat<=18446744073709551615*18446744073709551615:=ad7 (by simp only[x]; omega) (by omega);have eidx:Int.toNat ((i:Int)+(j:Int))=i+j:=by omega
      have hcj:∀ n,c n=(V%18446744073709551616 ^ (i+n)+x*ar (b.take n)*18446744073709551616 ^ i) / 18446744073709551616 ^ (i+n):=λ_=>rfl
      have hax:a.getD i 0=(x:Int):=by simp only[x]; omega
      have hby:b.getD j 0=((b.getD j 0).toNat:Int):=by omega
      have ec1:c (j+1)=(c j+V / 18446744073709551616 ^ (i+j)%18446744073709551616+x*(b.getD j 0).toNat) / 18446744073709551616:=hstep;have ed:U / 18446744073709551616 ^ (i+j)%18446744073709551616=(c j+V / 18446744073709551616 ^ (i+j)%18446744073709551616+x*(b.getD j 0).toNat)%18446744073709551616:=hdig;have hcl:c j<18446744073709551616:=hc;rw[ed]at hset;have vlt:V / 18446744073709551616 ^ (i+j)%18446744073709551616<18446744073709551616:=adu _ (by decide);have hxl:x<18446744073709551616:=by simp only[x]; omega
      have hyl:(b.getD j 0).toNat<18446744073709551616:=by omega
      simp only[j_,adk,eidx,hlen];rw[ade (by omega:(j:Int)<((b.length:Nat):Int)),adh,aa adc,aa adb,aa adb,aa adc,aa (ade (by omega)),ym N hax hby hget rfl hxl hyl vlt hcl,aa adc,aa (ade (by omega)),aa adb];rw[show i+(j+1)=i+j+1 by omega,<- hset];have ez:x*(b.getD j 0).toNat+V / 18446744073709551616 ^ (i+j)%18446744073709551616+c j=c j+V / 18446744073709551616 ^ (i+j)%18446744073709551616+x*(b.getD j 0).toNat:=by omega
      rw[ez,ec1];rfl
    · simp only[j_]
      rw[adf (by omega:¬(b.length:Int)<b.length),adg];have hlen:=wb U V L (i+b.length) (by simp only[L]; omega);have hset:=wc U V L (i+b.length) (by simp only[L]; omega);have eidx:Int.toNat ((i:Int)+(b.length:Int))=i+b.length:=by omega
      have hLe:i+b.length<L:=by simp only[L]; omega
      have hc:c b.length=U / 18446744073709551616 ^ (i+b.length):=by simp only[c];rw[adX,adp hV,hU]
      have hcl:U / 18446744073709551616 ^ (i+b.length)<18446744073709551616:=by
        rw[ado (aen (by decide))];have:i+1+b.length=i+b.length+1:=by omega
        rw[this,adr]at hUl;omega
      have ew:((c b.length:Nat):Int)=((U / 18446744073709551616 ^ (i+b.length)%18446744073709551616:Nat):Int):=by rw[hc,adp hcl]
      have hfin:=Ev (U:=U) (V:=V) (L:=L) (p:=i+b.length+1) (by rw[show i+b.length+1=i+1+b.length by omega]; exact hUl) (by omega) (adz hV (adv (by decide) (by omega)));rw[aa adb,eidx,hlen,aa adc,aa (ade (by omega)),aa adb,ew,hset,hfin];rfl
  · simp only[j9]
    rw[adf (by omega:¬(a.length:Int)<a.length),adg,adX,jM _ (gr _ _) (by rw[aj]; simp only[L]; omega) (by rw[aj]; simp only[L]; omega)];rw[k8 (qN (ig ha) hB)]
theorem Bz (n:Nat):2 ^ n=18446744073709551616 ^ (n / 64)*2 ^ (n%64):=by
 have e:(18446744073709551616:Nat)=2 ^ 64:=by decide
 rw[e,<- af_,<- ady];congr 1; omega
theorem aU (i:Nat):0<18446744073709551616 ^ i:=aen (by decide)
theorem HV {N:Nat} (m:List Int) (hm:InWq m) (n:Nat) (hn:n<4294967296) (hN:m.length+n / 64+4<N) (hs:m.length<=1099511627776) (k:Kz6):tJ N m n k=k (ae (ar m*2 ^ n)):=by
 (unfold tJ; rw[ac]; unfold sQ)
 by_cases h0:m.length=0
 ·have:m=[]:=List.length_eq_zero_iff.1 h0;subst this;show k []=k (ae (0*2 ^ n));rw[aeL,aZ]
 ·have e0:((m.length:Int)==0)=false:=by simp; intro h; subst h; simp at h0
  have ew:IntKind.wrap .u64 (Int.tdiv (n:Int) 64)=((n / 64:Nat):Int):=by rw[am,aei (by omega)]; omega
  have es:Int.tmod (n:Int) 64=((n%64:Nat):Int):=by rw[ad9 (by omega)]; rfl
  rw[e0,adg,ew,es];have hw6:n / 64<67108864:=by omega
  generalize hw:n / 64=w at *;generalize hsh:n%64=s at *;have hs32:s<64:=by omega
  have hp2:2 ^ n=18446744073709551616 ^ w*2 ^ s:=by rw[Bz,hw,hsh]
  have hs0:0<2 ^ s:=adt s;have hs1:2 ^ s*2 ^ (64 - s)=18446744073709551616:=by rw[<- ady,show s+(64 - s)=64 by omega]
  have elen:Int.toNat (((w:Nat):Int)+(m.length:Int)+1)=w+m.length+1:=by omega
  rw[aa adb,aa adb,aa adb,aa (bY (by omega) (by omega) (by omega) (by omega)),elen]
  let V:=ar m*2 ^ n
  let X:=ar m*2 ^ s
  have hVX:V=18446744073709551616 ^ w*X:=by simp only[V,X]; rw[hp2,adG]
  let T:=λi=>ar (m.take i)*2 ^ s
  let c:=λi=>T i / 18446744073709551616 ^ i
  have hcl:∀ i,c i<2 ^ s:=by intro i;simp only[c,T];rw[ado (aU i),adi];exact aeo (aN hm i) hs0
  refine aC (λi=>((i:Int),dlq V (w+i)++((c i:Nat):Int)::List.replicate (m.length - i) 0)) m.length ?_ (by omega) (λi hi K=>?_) (λK=>?_)
  ·congr 1;show List.replicate (w+m.length+1) (0:Int)=dlq V w++((c 0:Nat):Int)::List.replicate m.length 0;rw[hVX,qD];have hc0:c 0=0:=by simp[c,T,ar]
   rw[hc0];have:w+m.length+1=w+(m.length+1):=by omega
   rw[this,<- aeW,ad0]; rfl
  ·have hx:=hm.at (i:=i);have hT:T (i+1)=T i+18446744073709551616 ^ i*((m.getD i 0).toNat*2 ^ s):=by simp only[T,aI,adI,adq]
   have hq:T (i+1) / 18446744073709551616 ^ i=c i+(m.getD i 0).toNat*2 ^ s:=by rw[hT,cF]
   have hci:c i<2 ^ s:=hcl i;have hc1:c (i+1)=(c i+(m.getD i 0).toNat*2 ^ s) / 18446744073709551616:=by rw[<- hq]; simp only[c]; rw[adr,adm]
   have hdig:V / 18446744073709551616 ^ (w+i)%18446744073709551616=(c i+(m.getD i 0).toNat*2 ^ s)%18446744073709551616:=by rw[<- hq,hVX,ady,<- adm,adP _ (aU w)];obtain⟨R,hR⟩:=bw m (i+1);refine ip (R:=R*2 ^ s) ?_;simp only[X,T];rw[hR,adI,adq]
   have hrep:List.replicate (m.length - i) (0:Int)=0::List.replicate (m.length - (i+1)) 0:=by rw[show m.length - i=(m.length - (i+1))+1 by omega,ad0]
   have hdl:=aj V (w+i);have ei:Int.toNat ((w:Int)+(i:Int))=w+i:=by omega
   have ei1:Int.toNat ((w:Int)+(i:Int)+1)=w+i+1:=by omega
   have emin:min s 64=s:=by omega
   have e64:min (Int.toNat (IntKind.wrap .u64 (64 - (s:Int)))) 64=64 - s:=by rw[am]; omega
   simp only[eu,adk,ei,ei1,emin,e64];rw[hrep,bU hdl.symm,aW _ _ _ _ _ hdl.symm];have hmx:m.getD i 0=(((m.getD i 0).toNat:Nat):Int):=by omega
   rw[hmx];generalize hxx:(m.getD i 0).toNat=x at *;have hx32:x<18446744073709551616:=by omega
   have hlow:x*2 ^ s%18446744073709551616=2 ^ s*(x%2 ^ (64 - s)):=by
    have e:x*2 ^ s%(2 ^ s*2 ^ (64 - s))=2 ^ s*(x%2 ^ (64 - s)):=by rw[adi x]; exact ae2 _ _ _
    rwa [hs1]at e
   have hsum:2 ^ s*(x%2 ^ (64 - s))+c i<18446744073709551616:=by have h1:x%2 ^ (64 - s)+1<=2 ^ (64 - s):=adu _ (adt _);have h2:=adn (2 ^ s) h1;rw[hs1,adw]at h2;omega
   have epw:(x:Int)*2 ^ s=((x*2 ^ s:Nat):Int):=by rw[adB,aeI]; rfl
   have eor:az .or .u64 ((c i:Nat):Int) (IntKind.wrap .u64 ((x:Int)*2 ^ s))=((V / 18446744073709551616 ^ (w+i)%18446744073709551616:Nat):Int):=by
    have e1:IntKind.wrap .u64 ((x*2 ^ s:Nat):Int)=((2 ^ s*(x%2 ^ (64 - s)):Nat):Int):=by rw[<- hlow,am]; omega
    rw[epw,e1,cu _ _ s hci hsum,hdig];omega
   have ehi:Int.fdiv (x:Int) (2 ^ (64 - s))=((c (i+1):Nat):Int):=by
    have e2:(2:Int) ^ (64 - s)=((2 ^ (64 - s):Nat):Int):=by rw[aeI]; rfl
    rw[e2,jR,hc1];have:(c i+x*2 ^ s) / 18446744073709551616=x / 2 ^ (64 - s):=by rw[<- hs1,<- adm,adi x,aeb _ _ hs0,adK hci,adJ]
    rw[this]
   rw[eor,ehi];have hl1:∀(a b:Int) (ys:List Int),(dlq V (w+i)++a::b::ys).length=w+i+2+ys.length:=by intro a b ys; simp[hdl]; omega
   have hset2:(dlq V (w+i)++((V / 18446744073709551616 ^ (w+i)%18446744073709551616:Nat):Int)::0::List.replicate (m.length - (i+1)) 0).set (w+i+1) ((c (i+1):Nat):Int)=dlq V (w+(i+1))++((c (i+1):Nat):Int)::List.replicate (m.length - (i+1)) 0:=by
    have:dlq V (w+i)++((V / 18446744073709551616 ^ (w+i)%18446744073709551616:Nat):Int)::0::List.replicate (m.length - (i+1)) 0=dlq V (w+(i+1))++0::List.replicate (m.length - (i+1)) 0:=by rw[<- adY,dlq]; simp
    rw[this];exact aW _ _ _ _ _ (by rw[aj]; omega)
   rw[hset2,hl1,hl1];simp only[aeB];rw[ade (by omega:(i:Int)<((m.length:Nat):Int)),adh,aa adc,aa adb,aa adc,aa (ade (by omega)),aa (ade (by omega)),aa adc,aa (ade (by omega)),aa adb,aa adb,aa (ade (by rw[am]; omega)),aa adc,aa (ade (by omega)),aa adb];rfl
  ·simp only[eu];rw[adf (by omega:¬(m.length:Int)<m.length),adg,adQ,adS];have hV:V<18446744073709551616 ^ (w+m.length+1):=by
    have h1:=ig hm;simp only[V];rw[hp2,adr,ady,adG,adq];refine aeo ?_ (aU w);have hs2:2 ^ s<=18446744073709551616:=by rw[<- hs1]; exact aed _ (adt _)
    exact adZ h1 hs2 (by decide)
   have hT:T m.length=X:=by simp only[T,X]; rw[adX]
   have hend:dlq V (w+m.length)++[((c m.length:Nat):Int)]=dlq V (w+m.length+1):=by
    rw[dlq];have:c m.length=V / 18446744073709551616 ^ (w+m.length)%18446744073709551616:=by
     have hX:V / 18446744073709551616 ^ (w+m.length)=X / 18446744073709551616 ^ m.length:=by rw[hVX,ady,<- adm,adP _ (aU w)]
     have h2:=hcl m.length;have hs2:2 ^ s<=18446744073709551616:=by rw[<- hs1]; exact aed _ (adt _)
     rw[hX,<- hT];exact(adp (by show c m.length<_; omega)).symm
    rw[this]
   rw[hend,jM _ (gr V _) (by rw[aj]; omega) (by rw[aj]; omega),k8 hV]
theorem mq:∀(i V:Nat),(ae V).getD i 0=((V / 18446744073709551616 ^ i%18446744073709551616:Nat):Int)
 | i,V=>by
  by_cases h:V=0
  ·subst h; rw[aZ]; simp
  ·rw[bP h];cases i with
   | zero=>simp
   | succ i=>
    show(ae (V / 18446744073709551616)).getD i 0=_;rw[mq i (V / 18446744073709551616),adr,adi,<- adm]
theorem rM {l:List Int} {n i:Nat} (h:i<n):(l.take n).getD i 0=l.getD i 0:=by rw[List.getD_eq_getElem?_getD,List.getD_eq_getElem?_getD,List.getElem?_take,if_pos h]
theorem xH {m:List Int} (hm:InWq m) (j:Nat):∃ R,ar m / 18446744073709551616 ^ j=(m.getD j 0).toNat+18446744073709551616*(m.getD (j+1) 0).toNat+18446744073709551616*18446744073709551616*R:=by
 obtain⟨R,hR⟩:=bw m (j+2);refine⟨R,?_⟩;rw[hR,aI,aI];simp only[adr];have e:ar (m.take j)+18446744073709551616 ^ j*(m.getD j 0).toNat+18446744073709551616 ^ j*18446744073709551616*(m.getD (j+1) 0).toNat+18446744073709551616 ^ j*18446744073709551616*18446744073709551616*R
   = ar (m.take j)+18446744073709551616 ^ j*((m.getD j 0).toNat+18446744073709551616*(m.getD (j+1) 0).toNat+18446744073709551616*18446744073709551616*R):=by
  rw[adw,adw,adq,adq,adq,adq]; omega
 rw[e,cF,adK (aN hm j),adJ]
theorem AJ {x y s:Nat} (hs:s<64) (hx:x<18446744073709551616) (hy:y<18446744073709551616):az .or .u64 (Int.fdiv (x:Int) (2 ^ s)) (IntKind.wrap .u64 ((y:Int)*2 ^ (64 - s)))=(((x+18446744073709551616*y) / 2 ^ s%18446744073709551616:Nat):Int):=by
 have hs0:0<2 ^ s:=adt s;have hs1:2 ^ s*2 ^ (64 - s)=18446744073709551616:=by rw[<- ady,show s+(64 - s)=64 by omega]
 have e1:Int.fdiv (x:Int) (2 ^ s)=((x / 2 ^ s:Nat):Int):=by
  have e2:(2:Int) ^ s=((2 ^ s:Nat):Int):=by rw[aeI]; rfl
  rw[e2,jR]
 have e3:(y:Int)*2 ^ (64 - s)=((y*2 ^ (64 - s):Nat):Int):=by rw[adB,aeI]; rfl
 have hlow:y*2 ^ (64 - s)%18446744073709551616=2 ^ (64 - s)*(y%2 ^ s):=by
  have e:2 ^ (64 - s)*y%(2 ^ (64 - s)*2 ^ s)=2 ^ (64 - s)*(y%2 ^ s):=ae2 _ _ _
  rwa [adi (2 ^ (64 - s)) (2 ^ s),hs1,adi (2 ^ (64 - s)) y]at e
 have e4:IntKind.wrap .u64 ((y*2 ^ (64 - s):Nat):Int)=((2 ^ (64 - s)*(y%2 ^ s):Nat):Int):=by rw[<- hlow,am]; omega
 have hxl:x / 2 ^ s<2 ^ (64 - s):=by rw[ado hs0,adi,hs1]; exact hx
 have hsum:2 ^ (64 - s)*(y%2 ^ s)+x / 2 ^ s<18446744073709551616:=by have h1:y%2 ^ s+1<=2 ^ s:=adu _ hs0;have h2:=adn (2 ^ (64 - s)) h1;rw[adi (2 ^ (64 - s)) (2 ^ s),hs1,adw]at h2;omega
 rw[e1,e3,e4,cu _ _ (64 - s) hxl hsum];congr 1;have e5:(x+18446744073709551616*y) / 2 ^ s=x / 2 ^ s+2 ^ (64 - s)*y:=by rw[<- hs1,adq,aeb _ _ hs0]
 rw[e5];have e6:y=y%2 ^ s+2 ^ s*(y / 2 ^ s):=(afq _ _).symm;have e7:2 ^ (64 - s)*y=2 ^ (64 - s)*(y%2 ^ s)+18446744073709551616*(y / 2 ^ s):=by
  conv=>lhs; rw[e6]
  rw[adw,<- adq,adi (2 ^ (64 - s)) (2 ^ s),hs1]
 rw[e7,<- adY,aew,adp (a:=x / 2 ^ s+2 ^ (64 - s)*(y%2 ^ s)) (b:=18446744073709551616) (by rw[ae9]; exact hsum)];exact ae9 _ _
theorem yE:∀ n:Nat,n ≠ 0 -> ∃ t c,n=2 ^ t*(2*c+1):=by
 intro n;induction n using Nat.strongRecOn with
 | ind n ih=>
  intro h0;by_cases h:n%2=0
  ·obtain⟨t,c,hc⟩:=ih (n / 2) (by omega) (by omega);exact⟨t+1,c,by rw[adr,adi (2 ^ t) 2,adq,<- hc]; omega⟩
  ·exact⟨0,n / 2,by rw[ae_,afj]; omega⟩
theorem sB {a b:Nat} (ha:a<18446744073709551616) (hb:b<18446744073709551616):az .and .u64 (a:Int) (b:Int)=((a &&& b:Nat):Int):=by
 unfold az pF;simp only[ad3];have h64:(2:Nat) ^ 64=18446744073709551616:=by decide
 have e:((BitVec.ofInt (IntKind.bits .u64) (a:Int)) &&& (BitVec.ofInt (IntKind.bits .u64) (b:Int))).toNat=a &&& b:=by show((BitVec.ofInt 64 (a:Int)) &&& (BitVec.ofInt 64 (b:Int))).toNat=_;rw[afW,aem,aem,aeu,aeu,adp (by omega),adp (by omega)]
 have hl:a &&& b<18446744073709551616:=aeR Nat.and_le_left ha;rw[e,uL _ hl]
theorem Ml {t c:Nat} (h:2 ^ t*(2*c+1)<2 ^ 64):(2 ^ t*(2*c+1)) &&& (2 ^ 64 - 2 ^ t*(2*c+1))=2 ^ t:=by
 have ht0:0<2 ^ t:=adt t;have ht:t<64:=by
  rcases aef t 64 with h1 | h1
  ·exact h1
  ·have h2:2 ^ 64<=2 ^ t:=adv (by decide) h1;have h3:2 ^ t*1<=2 ^ t*(2*c+1):=adn _ (by omega);omega
 have e1:2 ^ t*(2*c+1)=(2 ^ t*(2*c)+(2 ^ t - 1))+1:=by rw[adw]; omega
 refine afu λj=>?_
 rw[agb];have e2:(2 ^ 64 - 2 ^ t*(2*c+1)).testBit j=(decide (j<64) && !(2 ^ t*(2*c)+(2 ^ t - 1)).testBit j):=by
  conv=>lhs; rw[e1]
  exact af0 (by rw[e1]at h; omega) j
 rw[e2,Nat.testBit_two_pow_mul,agc _ (by omega),ae6];rcases afO j t with hj | hj | hj
 ·rw[adf (by omega:¬ j>=t),adf (by omega:¬ t=j)]; rfl
 ·subst hj;rw[if_neg (by omega),adQ,ade (ads _),ade ht,ade rfl];have a1:(2*c+1).testBit 0=true:=by rw[afX]; simp
  have a2:(2*c).testBit 0=false:=by rw[afX]; simp
  rw[a1,a2]; rfl
 ·obtain⟨k,hk⟩:∃ k,j - t=k+1:=⟨j - t - 1,by omega⟩
  rw[if_neg (by omega),hk,ade (by omega:j>=t),adf (by omega:¬ t=j),afY,afY];have a1:(2*c+1) / 2=c:=by omega
  have a2:2*c / 2=c:=by omega
  rw[a1,a2];cases c.testBit k <;> simp
theorem Rs:∀ t:Fin 64,(inR (Int.fdiv (IntKind.wrap .u64 (((2 ^ t.val:Nat):Int)*285870213051353865)) (2 ^ 58)) 64=true)/\(List.getD wQ (Int.toNat (Int.fdiv (IntKind.wrap .u64 (((2 ^ t.val:Nat):Int)*285870213051353865)) (2 ^ 58))) 0=(t.val:Int)):=by decide +kernel
theorem QS (N:Nat) {t c:Nat} (h:2 ^ t*(2*c+1)<18446744073709551616) (k:Kz2):Q3 N ((2 ^ t*(2*c+1):Nat):Int) k=k (t:Int):=by
 have h64:(2:Nat) ^ 64=18446744073709551616:=by decide
 have ht0:0<2 ^ t:=adt t;have hx0:0<2 ^ t*(2*c+1):=afe ht0 (by omega);have ht:t<64:=by
  rcases aef t 64 with h1 | h1
  ·exact h1
  ·have h2:2 ^ 64<=2 ^ t:=adv (by decide) h1;have h3:2 ^ t*1<=2 ^ t*(2*c+1):=adn _ (by omega);omega
 (unfold Q3; rw[ac]; unfold Me)
 have ha:=Ml (t:=t) (c:=c) (by omega);rw[h64]at ha;generalize 2 ^ t*(2*c+1)=x at *;have e0:((x:Int)==0)=false:=by simp; omega
 have ew:IntKind.wrap .u64 (0 - (x:Int))=((18446744073709551616 - x:Nat):Int):=by rw[am]; omega
 obtain⟨t1,t2⟩:=Rs ⟨t,ht⟩;rw[e0,adg,ew,sB h (by omega),ha,aa t1,t2,aa adb]
theorem QU {V w:Nat} (h:V / 18446744073709551616 ^ w ≠ 0):w<(ae V).length:=by
 rcases aef w (ae V).length with h1 | h1
 ·exact h1
 ·exfalso;have h2:=ig (aR V);rw[aA]at h2;exact h (adK (adz h2 (adv (by decide) h1)))
theorem Hn {B n:Nat} (h:aP B n):(ae n).length<=B / 64+1:=by
 refine fu _ _ ?_;have e:(18446744073709551616:Nat)=2 ^ 64:=by decide
 rw[e,<- af_];exact adz h (adv (by decide) (by omega))
theorem HM {N:Nat} (g:Bool) (n:Nat) (h:(ae n).length<=1099511627776) (k:Ky3):Nj N g (ae n) k=qI (-(aS g n)) k:=by
 (unfold Nj; rw[ac]; unfold OX)
 rw[vq _ h,mC (!g) g (ae n) n k];congr 1; unfold aS; cases g <;> simp
theorem KJ {N:Nat} (hN:1000<=N) (n:Nat) (hn:n<18446744073709551616) (b:Bool) (k:Ky3):Nb N n b k=k false (ae n):=by
 (unfold Nb; rw[ac]; unfold OI)
 rw[rQ hN n hn]; rfl
theorem qK {N:Nat} (hN:1000<=N) (n:Nat) (hn:n<9223372036854775808) (k:Ky3):DH N n k=k false (ae n):=by
 (unfold DH NO; unfold Sz; rw[ac]; unfold O1)
 have e:IntKind.wrap .u64 (n:Int)=n:=by rw[am]; omega
 rw[adf (by omega:¬(n:Int)<0),adg,e,rQ hN n (by omega)]; rfl
theorem HL {N:Nat} (s:Nat) (b g:Bool) (n:Nat) (hs:s<4294967296) (hN:(ae n).length+s / 64+4<N) (h:(ae n).length<=1099511627776) (k:Ky3):Ri N s b g (ae n) k=qI (aS g (n*2 ^ s)) k:=by unfold Ri RM;rw[HV _ (aR n) s hs hN h,aA,E4 g b _ k]
theorem oK {n:Nat} (h0:n ≠ 0) (h:n<18446744073709551616):ae n=[(n:Int)]:=by rw[bP h0,adK h,aZ,adp h]
theorem sC (a b:Int):az .or .u64 a b=az .or .u64 b a:=by unfold az pF;simp only[ad3];rw[BitVec.or_comm]
end Go.Proofs.YteifemaagdeomaaGreatDoor
