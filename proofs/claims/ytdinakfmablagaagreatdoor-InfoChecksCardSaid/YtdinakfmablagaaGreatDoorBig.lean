/- Laws in plain Lean. Conditions: none. -/
import Derived.Test.YtdinakfmablagaaGreatDoorMachT
set_option linter.unusedVariables false
namespace Go.Mach
theorem afs {n:Int} (h1 : -9223372036854775808 ≤ n:=by omega) (h2:n ≤ 9223372036854775807:=by omega):af .i64 n=true:=ab h1 h2
theorem aft {n:Int} {m:Nat} (h1:0 ≤ n:=by omega) (h2:n<(m:Int):=by omega):inR n m=true:=ai h1 h2
def aF:List Int->Nat
 | []=>0
 | x::r=>x.toNat+4294967296*aF r
def InW (m:List Int):Prop:=∀ x ∈ m,0<=x/\x<4294967296
def aj (n:Nat):List Int:=if h:n=0 then[]else((n%4294967296:Nat):Int)::aj (n / 4294967296)
termination_by n
decreasing_by omega
theorem ba:aj 0=[]:=by rw[aj]; simp
theorem cl {n:Nat} (h:n ≠ 0):aj n=((n%4294967296:Nat):Int)::aj (n / 4294967296):=by rw[aj]; simp[h]
theorem bg:∀ n,InW (aj n):=by
 intro n;induction n using Nat.strongRecOn with
 | ind n ih=>
  by_cases h:n=0
  ·subst h; rw[ba]; intro x hx; cases hx
  ·rw[cl h];intro x hx;rcases List.mem_cons.1 hx with rfl | hx
   ·omega
   ·exact ih (n / 4294967296) (by omega) x hx
theorem aL:∀ n,aF (aj n)=n:=by
 intro n;induction n using Nat.strongRecOn with
 | ind n ih=>
  by_cases h:n=0
  ·subst h; rw[ba]; rfl
  ·rw[cl h,aF,ih (n / 4294967296) (by omega),afz];omega
theorem tm (a b:List Int):aF (a++b)=aF a+4294967296 ^ a.length*aF b:=by
 induction a with
 | nil=>simp[aF]
 | cons x r ih=>
  rw[ahg,aF,ih,aF,af8,afI,afM,afy (4294967296 ^ r.length) 4294967296,afG];omega
theorem InW.take {m:List Int} (h:InW m) (n:Nat):InW (m.take n):=λx hx=>h x (aii hx)
theorem InW.drop {m:List Int} (h:InW m) (n:Nat):InW (m.drop n):=λx hx=>h x (aih hx)
theorem InW.cons {x:Int} {m:List Int} (h:InW (x::m)):(0<=x/\x<4294967296)/\InW m:=⟨h x (by simp),λy hy=>h y (by simp[hy])⟩
theorem InW.at {m:List Int} (h:InW m) {i:Nat}:0<=m.getD i 0/\m.getD i 0<4294967296:=by
 rw[List.getD_eq_getElem?_getD];by_cases hi:i<m.length
 ·rw[List.getElem?_eq_getElem hi]; exact h _ (agH hi)
 ·rw[List.getElem?_eq_none (by omega)]; exact⟨by decide,by decide⟩
theorem eJ:∀{m:List Int},InW m->aF m<4294967296 ^ m.length
 | [],_=>by simp[aF]
 | x::r,h=>by have ih:=eJ h.cons.2;have hx:=h.cons.1;rw[aF,af8,afI];have:aF r+1<=4294967296 ^ r.length:=ih;have:=afA 4294967296 this;omega
theorem xI:∀{m:List Int},InW m->(∀ x,m.getLast? = some x->x ≠ 0)->aj (aF m)=m
 | [],_,_=>ba
 | [x],h,hl=>by
  have hx:=h.cons.1;have h0:x ≠ 0:=hl x rfl;have e:aF [x]=x.toNat:=by simp[aF]
  rw[e,cl (by omega),af2 (by omega),ba,afF (by omega),ahT hx.1]
 | x::y::r,h,hl=>by
  have hx:=h.cons.1;have ih:=xI h.cons.2 (λz hz=>hl z (by rw[List.getLast?_cons_cons]; exact hz));have hne:aF (y::r) ≠ 0:=by intro h0;rw[h0,ba]at ih; cases ih
  have e1:aF (x::y::r)=x.toNat+4294967296*aF (y::r):=rfl;rw[e1,cl (by omega)];have e2:(x.toNat+4294967296*aF (y::r))%4294967296=x.toNat:=by omega
  have e3:(x.toNat+4294967296*aF (y::r)) / 4294967296=aF (y::r):=by omega
  rw[e2,e3,ih,ahT hx.1]
theorem Bv {m:List Int} {i:Nat} (hi:i<m.length):aF (m.take (i+1))=aF (m.take i)+4294967296 ^ i*(m.getD i 0).toNat:=by rw[agO hi,tm,aga,agW (by omega),List.getD_eq_getElem?_getD,List.getElem?_eq_getElem hi];simp[aF]
def dl (S:Nat):Nat->List Int
 | 0=>[]
 | n+1=>dl S n++[((S / 4294967296 ^ n%4294967296:Nat):Int)]
theorem al (S:Nat):∀ n,(dl S n).length=n
 | 0=>rfl
 | n+1=>by simp[dl,al S n]
theorem ji (S:Nat):∀ n,InW (dl S n)
 | 0=>λx hx=>by cases hx
 | n+1=>λx hx=>by
  rcases List.mem_append.1 hx with h | h
  ·exact ji S n x h
  ·simp only[aiw]at h;subst h;omega
theorem qV (S:Nat):∀ n,aF (dl S n)=S%4294967296 ^ n
 | 0=>by simp[dl,aF,ail]
 | n+1=>by rw[dl,tm,al,qV S n,afI,aim];simp only[aF,afz,agS,af3]
theorem AG (S n m:Nat) (h:n<m):(dl S n++List.replicate (m - n) 0).set n ((S / 4294967296 ^ n%4294967296:Nat):Int)=dl S (n+1)++List.replicate (m - (n+1)) 0:=by
 rw[ahF _ _ (by rw[al]; exact afH _),al,af6];have:m - n=(m - (n+1))+1:=by omega
 rw[this,agf];simp[dl]
theorem qA {S n:Nat} (h:S<4294967296 ^ n):aj (aF (dl S n))=aj S:=by rw[qV,afF h]
end Go.Mach
