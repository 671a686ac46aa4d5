/-
  WHOLE NUMBERS AS WORDS of 32 bits, the least ahead: what a list is worth, a number's words.
  Conditions: none.
-/
import Derived.Test.YteifemaagdeomaaGreatDoorMachT
set_option linter.unusedVariables false
namespace Go.Mach
theorem aFw {n:Int} (h1 : -9223372036854775808 ≤ n:=by omega) (h2:n ≤ 9223372036854775807:=by omega):aj .i64 n=true:=af h1 h2
theorem aFx {n:Int} {m:Nat} (h1:0 ≤ n:=by omega) (h2:n<(m:Int):=by omega):inR n m=true:=aq h1 h2
def aL:List Int->Nat
 | []=>0
 | x::r=>x.toNat+4294967296*aL r
def InW (m:List Int):Prop:=∀ x ∈ m,0<=x/\x<4294967296
def ak (n:Nat):List Int:=if h:n=0 then[]else((n%4294967296:Nat):Int)::ak (n / 4294967296)
termination_by n
decreasing_by omega
theorem bM:ak 0=[]:=by rw[ak]; simp
theorem fL {n:Nat} (h:n ≠ 0):ak n=((n%4294967296:Nat):Int)::ak (n / 4294967296):=by rw[ak]; simp[h]
theorem bV:∀ n,InW (ak n):=by
 intro n;induction n using Nat.strongRecOn with
 | ind n ih=>
  by_cases h:n=0
  ·subst h; rw[bM]; intro x hx; cases hx
  ·rw[fL h];intro x hx;rcases List.mem_cons.1 hx with rfl | hx
   ·omega
   ·exact ih (n / 4294967296) (by omega) x hx
theorem aZ:∀ n,aL (ak n)=n:=by
 intro n;induction n using Nat.strongRecOn with
 | ind n ih=>
  by_cases h:n=0
  ·subst h; rw[bM]; rfl
  ·rw[fL h,aL,ih (n / 4294967296) (by omega),aFC];omega
theorem zB (a b:List Int):aL (a++b)=aL a+4294967296 ^ a.length*aL b:=by
 induction a with
 | nil=>simp[aL]
 | cons x r ih=>
  rw[aHh,aL,ih,aL,aGb,aFL,aFQ,aFD (4294967296 ^ r.length) 4294967296,aFK];omega
theorem InW.take {m:List Int} (h:InW m) (n:Nat):InW (m.take n):=λx hx=>h x (aHM hx)
theorem InW.drop {m:List Int} (h:InW m) (n:Nat):InW (m.drop n):=λx hx=>h x (aIg hx)
theorem InW.cons {x:Int} {m:List Int} (h:InW (x::m)):(0<=x/\x<4294967296)/\InW m:=⟨h x (by simp),λy hy=>h y (by simp[hy])⟩
theorem InW.at {m:List Int} (h:InW m) {i:Nat}:0<=m.getD i 0/\m.getD i 0<4294967296:=by
 rw[List.getD_eq_getElem?_getD];by_cases hi:i<m.length
 ·rw[List.getElem?_eq_getElem hi]; exact h _ (aGP hi)
 ·rw[List.getElem?_eq_none (by omega)]; exact⟨by decide,by decide⟩
theorem jX:∀{m:List Int},InW m->aL m<4294967296 ^ m.length
 | [],_=>by simp[aL]
 | x::r,h=>by have ih:=jX h.cons.2;have hx:=h.cons.1;rw[aL,aGb,aFL];have:aL r+1<=4294967296 ^ r.length:=ih;have:=aFF 4294967296 this;omega
theorem Ek:∀{m:List Int},InW m->(∀ x,m.getLast? = some x->x ≠ 0)->ak (aL m)=m
 | [],_,_=>bM
 | [x],h,hl=>by
  have hx:=h.cons.1;have h0:x ≠ 0:=hl x rfl;have e:aL [x]=x.toNat:=by simp[aL]
  rw[e,fL (by omega),aF4 (by omega),bM,aFJ (by omega),aHU hx.1]
 | x::y::r,h,hl=>by
  have hx:=h.cons.1;have ih:=Ek h.cons.2 (λz hz=>hl z (by rw[List.getLast?_cons_cons]; exact hz));have hne:aL (y::r) ≠ 0:=by intro h0;rw[h0,bM]at ih; cases ih
  have e1:aL (x::y::r)=x.toNat+4294967296*aL (y::r):=rfl;rw[e1,fL (by omega)];have e2:(x.toNat+4294967296*aL (y::r))%4294967296=x.toNat:=by omega
  have e3:(x.toNat+4294967296*aL (y::r)) / 4294967296=aL (y::r):=by omega
  rw[e2,e3,ih,aHU hx.1]
theorem Ja {m:List Int} {i:Nat} (hi:i<m.length):aL (m.take (i+1))=aL (m.take i)+4294967296 ^ i*(m.getD i 0).toNat:=by rw[aGM hi,zB,aGc,aGY (by omega),List.getD_eq_getElem?_getD,List.getElem?_eq_getElem hi];simp[aL]
def dl (S:Nat):Nat->List Int
 | 0=>[]
 | n+1=>dl S n++[((S / 4294967296 ^ n%4294967296:Nat):Int)]
theorem am (S:Nat):∀ n,(dl S n).length=n
 | 0=>rfl
 | n+1=>by simp[dl,am S n]
theorem mY (S:Nat):∀ n,InW (dl S n)
 | 0=>λx hx=>by cases hx
 | n+1=>λx hx=>by
  rcases List.mem_append.1 hx with h | h
  ·exact mY S n x h
  ·simp only[aIy]at h;subst h;omega
theorem xh (S:Nat):∀ n,aL (dl S n)=S%4294967296 ^ n
 | 0=>by simp[dl,aL,aIn]
 | n+1=>by rw[dl,zB,am,xh S n,aFL,aIo];simp only[aL,aFC,aGU,aF5]
theorem Ir (S n m:Nat) (h:n<m):(dl S n++List.replicate (m - n) 0).set n ((S / 4294967296 ^ n%4294967296:Nat):Int)=dl S (n+1)++List.replicate (m - (n+1)) 0:=by
 rw[aHF _ _ (by rw[am]; exact aFM _),am,aF9];have:m - n=(m - (n+1))+1:=by omega
 rw[this,aGh];simp[dl]
theorem wP {S n:Nat} (h:S<4294967296 ^ n):ak (aL (dl S n))=ak S:=by rw[xh,aFJ h]
end Go.Mach
