/-
  WHOLE NUMBERS AS WORDS of 32 bits, the least ahead: what a list is worth, a number's words.
  Conditions: none.
-/
import Derived.Test.YtadejnnigmcpdaaGreatDoorMachP
set_option linter.unusedVariables false
namespace Go.Mach
theorem apY {n:Int} (h1 : -9223372036854775808 ≤ n:=by omega) (h2:n ≤ 9223372036854775807:=by omega):aw .i64 n=true:=aq h1 h2
theorem apZ {n:Int} {m:Nat} (h1:0 ≤ n:=by omega) (h2:n<(m:Int):=by omega):inR n m=true:=aQ h1 h2
def aO:List Int->Nat
 | []=>0
 | x::r=>x.toNat+4294967296*aO r
def InW (m:List Int):Prop:=∀ x ∈ m,0<=x/\x<4294967296
def ao (n:Nat):List Int:=if h:n=0 then[]else((n%4294967296:Nat):Int)::ao (n / 4294967296)
termination_by n
decreasing_by omega
theorem aX:ao 0=[]:=by rw[ao]; simp
theorem dk {n:Nat} (h:n ≠ 0):ao n=((n%4294967296:Nat):Int)::ao (n / 4294967296):=by rw[ao]; simp[h]
theorem aK:∀ n,InW (ao n):=by
 intro n;induction n using Nat.strongRecOn with
 | ind n ih=>
  by_cases h:n=0
  ·subst h; rw[aX]; intro x hx; cases hx
  ·rw[dk h];intro x hx;rcases List.mem_cons.1 hx with rfl | hx
   ·omega
   ·exact ih (n / 4294967296) (by omega) x hx
theorem aC:∀ n,aO (ao n)=n:=by
 intro n;induction n using Nat.strongRecOn with
 | ind n ih=>
  by_cases h:n=0
  ·subst h; rw[aX]; rfl
  ·rw[dk h,aO,ih (n / 4294967296) (by omega),Int.toNat_natCast];omega
theorem ny (a b:List Int):aO (a++b)=aO a+4294967296 ^ a.length*aO b:=by
 induction a with
 | nil=>simp[aO]
 | cons x r ih=>
  rw[ard,aO,ih,aO,aqq,aqv,Nat.mul_add,aqw (4294967296 ^ r.length) 4294967296,aqd];omega
theorem InW.take {m:List Int} (h:InW m) (n:Nat):InW (m.take n):=λx hx=>h x (List.mem_of_mem_take hx)
theorem InW.drop {m:List Int} (h:InW m) (n:Nat):InW (m.drop n):=λx hx=>h x (List.mem_of_mem_drop hx)
theorem InW.cons {x:Int} {m:List Int} (h:InW (x::m)):(0<=x/\x<4294967296)/\InW m:=⟨h x (by simp),λy hy=>h y (by simp[hy])⟩
theorem InW.at {m:List Int} (h:InW m) {i:Nat}:0<=m.getD i 0/\m.getD i 0<4294967296:=by
 rw[List.getD_eq_getElem?_getD];by_cases hi:i<m.length
 ·rw[List.getElem?_eq_getElem hi]; exact h _ (aqr hi)
 ·rw[List.getElem?_eq_none (by omega)]; exact⟨by decide,by decide⟩
theorem fC:∀{m:List Int},InW m->aO m<4294967296 ^ m.length
 | [],_=>by simp[aO]
 | x::r,h=>by have ih:=fC h.cons.2;have hx:=h.cons.1;rw[aO,aqq,aqv];have:aO r+1<=4294967296 ^ r.length:=ih;have:=ap4 4294967296 this;omega
theorem uh:∀{m:List Int},InW m->(∀ x,m.getLast? = some x->x ≠ 0)->ao (aO m)=m
 | [],_,_=>aX
 | [x],h,hl=>by
  have hx:=h.cons.1;have h0:x ≠ 0:=hl x rfl;have e:aO [x]=x.toNat:=by simp[aO]
  rw[e,dk (by omega),aqZ (by omega),aX,aqi (by omega),Int.toNat_of_nonneg hx.1]
 | x::y::r,h,hl=>by
  have hx:=h.cons.1;have ih:=uh h.cons.2 (λz hz=>hl z (by rw[List.getLast?_cons_cons]; exact hz));have hne:aO (y::r) ≠ 0:=by intro h0;rw[h0,aX]at ih; cases ih
  have e1:aO (x::y::r)=x.toNat+4294967296*aO (y::r):=rfl;rw[e1,dk (by omega)];have e2:(x.toNat+4294967296*aO (y::r))%4294967296=x.toNat:=by omega
  have e3:(x.toNat+4294967296*aO (y::r)) / 4294967296=aO (y::r):=by omega
  rw[e2,e3,ih,Int.toNat_of_nonneg hx.1]
theorem xJ {m:List Int} {i:Nat} (hi:i<m.length):aO (m.take (i+1))=aO (m.take i)+4294967296 ^ i*(m.getD i 0).toNat:=by rw[List.take_succ_eq_append_getElem hi,ny,aqM,aqp (by omega),List.getD_eq_getElem?_getD,List.getElem?_eq_getElem hi];simp[aO]
def dl (S:Nat):Nat->List Int
 | 0=>[]
 | n+1=>dl S n++[((S / 4294967296 ^ n%4294967296:Nat):Int)]
theorem aL (S:Nat):∀ n,(dl S n).length=n
 | 0=>rfl
 | n+1=>by simp[dl,aL S n]
theorem ui (S:Nat):∀ n,InW (dl S n)
 | 0=>λx hx=>by cases hx
 | n+1=>λx hx=>by
  rcases List.mem_append.1 hx with h | h
  ·exact ui S n x h
  ·simp only[List.mem_singleton]at h;subst h;omega
theorem KO (S:Nat):∀ n,aO (dl S n)=S%4294967296 ^ n
 | 0=>by simp[dl,aO,Nat.mod_one]
 | n+1=>by rw[dl,ny,aL,KO S n,aqv,Nat.mod_mul];simp only[aO,Int.toNat_natCast,Nat.mul_zero,aqy]
theorem BB (S n m:Nat) (h:n<m):(dl S n++List.replicate (m - n) 0).set n ((S / 4294967296 ^ n%4294967296:Nat):Int)=dl S (n+1)++List.replicate (m - (n+1)) 0:=by
 rw[List.set_append_right _ _ (by rw[aL]; exact ap1 _),aL,aqV];have:m - n=(m - (n+1))+1:=by omega
 rw[this,aqO];simp[dl]
theorem qY {S n:Nat} (h:S<4294967296 ^ n):ao (aO (dl S n))=ao S:=by rw[KO,aqi h]
end Go.Mach
