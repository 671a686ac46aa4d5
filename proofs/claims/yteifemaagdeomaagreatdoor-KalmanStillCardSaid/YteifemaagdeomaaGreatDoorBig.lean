/-
  WHOLE NUMBERS AS WORDS of 32 bits, the least ahead: what a list is worth, a number's words.
  Conditions: none.
-/
import Derived.Test.YteifemaagdeomaaGreatDoorMachT
set_option linter.unusedVariables false
namespace Go.Mach
theorem ajv {n:Int} (h1 : -9223372036854775808 ≤ n:=by omega) (h2:n ≤ 9223372036854775807:=by omega):ah .i64 n=true:=ac h1 h2
theorem ajw {n:Int} {m:Nat} (h1:0 ≤ n:=by omega) (h2:n<(m:Int):=by omega):inR n m=true:=ai h1 h2
def aG:List Int->Nat
 | []=>0
 | x::r=>x.toNat+4294967296*aG r
def InW (m:List Int):Prop:=∀ x ∈ m,0<=x/\x<4294967296
def aj (n:Nat):List Int:=if h:n=0 then[]else((n%4294967296:Nat):Int)::aj (n / 4294967296)
termination_by n
decreasing_by omega
theorem ba:aj 0=[]:=by rw[aj]; simp
theorem cu {n:Nat} (h:n ≠ 0):aj n=((n%4294967296:Nat):Int)::aj (n / 4294967296):=by rw[aj]; simp[h]
theorem bf:∀ n,InW (aj n):=by
 intro n;induction n using Nat.strongRecOn with
 | ind n ih=>
  by_cases h:n=0
  ·subst h; rw[ba]; intro x hx; cases hx
  ·rw[cu h];intro x hx;rcases List.mem_cons.1 hx with rfl | hx
   ·omega
   ·exact ih (n / 4294967296) (by omega) x hx
theorem aM:∀ n,aG (aj n)=n:=by
 intro n;induction n using Nat.strongRecOn with
 | ind n ih=>
  by_cases h:n=0
  ·subst h; rw[ba]; rfl
  ·rw[cu h,aG,ih (n / 4294967296) (by omega),ajD];omega
theorem xf (a b:List Int):aG (a++b)=aG a+4294967296 ^ a.length*aG b:=by
 induction a with
 | nil=>simp[aG]
 | cons x r ih=>
  rw[alh,aG,ih,aG,aj9,ajK,ajP,ajB (4294967296 ^ r.length) 4294967296,ajI];omega
theorem InW.take {m:List Int} (h:InW m) (n:Nat):InW (m.take n):=λx hx=>h x (alO hx)
theorem InW.drop {m:List Int} (h:InW m) (n:Nat):InW (m.drop n):=λx hx=>h x (amj hx)
theorem InW.cons {x:Int} {m:List Int} (h:InW (x::m)):(0<=x/\x<4294967296)/\InW m:=⟨h x (by simp),λy hy=>h y (by simp[hy])⟩
theorem InW.at {m:List Int} (h:InW m) {i:Nat}:0<=m.getD i 0/\m.getD i 0<4294967296:=by
 rw[List.getD_eq_getElem?_getD];by_cases hi:i<m.length
 ·rw[List.getElem?_eq_getElem hi]; exact h _ (akR hi)
 ·rw[List.getElem?_eq_none (by omega)]; exact⟨by decide,by decide⟩
theorem fX:∀{m:List Int},InW m->aG m<4294967296 ^ m.length
 | [],_=>by simp[aG]
 | x::r,h=>by have ih:=fX h.cons.2;have hx:=h.cons.1;rw[aG,aj9,ajK];have:aG r+1<=4294967296 ^ r.length:=ih;have:=ajE 4294967296 this;omega
theorem Bz:∀{m:List Int},InW m->(∀ x,m.getLast? = some x->x ≠ 0)->aj (aG m)=m
 | [],_,_=>ba
 | [x],h,hl=>by
  have hx:=h.cons.1;have h0:x ≠ 0:=hl x rfl;have e:aG [x]=x.toNat:=by simp[aG]
  rw[e,cu (by omega),aj3 (by omega),ba,ajJ (by omega),alW hx.1]
 | x::y::r,h,hl=>by
  have hx:=h.cons.1;have ih:=Bz h.cons.2 (λz hz=>hl z (by rw[List.getLast?_cons_cons]; exact hz));have hne:aG (y::r) ≠ 0:=by intro h0;rw[h0,ba]at ih; cases ih
  have e1:aG (x::y::r)=x.toNat+4294967296*aG (y::r):=rfl;rw[e1,cu (by omega)];have e2:(x.toNat+4294967296*aG (y::r))%4294967296=x.toNat:=by omega
  have e3:(x.toNat+4294967296*aG (y::r)) / 4294967296=aG (y::r):=by omega
  rw[e2,e3,ih,alW hx.1]
theorem EG {m:List Int} {i:Nat} (hi:i<m.length):aG (m.take (i+1))=aG (m.take i)+4294967296 ^ i*(m.getD i 0).toNat:=by rw[akP hi,xf,akc,akS (by omega),List.getD_eq_getElem?_getD,List.getElem?_eq_getElem hi];simp[aG]
def dl (S:Nat):Nat->List Int
 | 0=>[]
 | n+1=>dl S n++[((S / 4294967296 ^ n%4294967296:Nat):Int)]
theorem am (S:Nat):∀ n,(dl S n).length=n
 | 0=>rfl
 | n+1=>by simp[dl,am S n]
theorem kj (S:Nat):∀ n,InW (dl S n)
 | 0=>λx hx=>by cases hx
 | n+1=>λx hx=>by
  rcases List.mem_append.1 hx with h | h
  ·exact kj S n x h
  ·simp only[amB]at h;subst h;omega
theorem vl (S:Nat):∀ n,aG (dl S n)=S%4294967296 ^ n
 | 0=>by simp[dl,aG,al_]
 | n+1=>by rw[dl,xf,am,vl S n,ajK,amr];simp only[aG,ajD,akQ,aj4]
theorem DZ (S n m:Nat) (h:n<m):(dl S n++List.replicate (m - n) 0).set n ((S / 4294967296 ^ n%4294967296:Nat):Int)=dl S (n+1)++List.replicate (m - (n+1)) 0:=by
 rw[alI _ _ (by rw[am]; exact ajL _),am,aj8];have:m - n=(m - (n+1))+1:=by omega
 rw[this,akh];simp[dl]
theorem uC {S n:Nat} (h:S<4294967296 ^ n):aj (aG (dl S n))=aj S:=by rw[vl,ajJ h]
end Go.Mach
