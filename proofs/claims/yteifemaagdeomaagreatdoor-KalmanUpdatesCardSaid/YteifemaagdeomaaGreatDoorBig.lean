/-
  WHOLE NUMBERS AS WORDS of 32 bits, the least ahead: what a list is worth, a number's words.
  Conditions: none.
-/
import Derived.Test.YteifemaagdeomaaGreatDoorMachT
set_option linter.unusedVariables false
namespace Go.Mach
theorem adb {n:Int} (h1 : -9223372036854775808 ≤ n:=by omega) (h2:n ≤ 9223372036854775807:=by omega):ah .i64 n=true:=ab h1 h2
theorem adc {n:Int} {m:Nat} (h1:0 ≤ n:=by omega) (h2:n<(m:Int):=by omega):inR n m=true:=af h1 h2
def aB:List Int->Nat
 | []=>0
 | x::r=>x.toNat+4294967296*aB r
def InW (m:List Int):Prop:=∀ x ∈ m,0<=x/\x<4294967296
def ai (n:Nat):List Int:=if h:n=0 then[]else((n%4294967296:Nat):Int)::ai (n / 4294967296)
termination_by n
decreasing_by omega
theorem aT:ai 0=[]:=by rw[ai]; simp
theorem ce {n:Nat} (h:n ≠ 0):ai n=((n%4294967296:Nat):Int)::ai (n / 4294967296):=by rw[ai]; simp[h]
theorem aX:∀ n,InW (ai n):=by
 intro n;induction n using Nat.strongRecOn with
 | ind n ih=>
  by_cases h:n=0
  ·subst h; rw[aT]; intro x hx; cases hx
  ·rw[ce h];intro x hx;rcases List.mem_cons.1 hx with rfl | hx
   ·omega
   ·exact ih (n / 4294967296) (by omega) x hx
theorem aH:∀ n,aB (ai n)=n:=by
 intro n;induction n using Nat.strongRecOn with
 | ind n ih=>
  by_cases h:n=0
  ·subst h; rw[aT]; rfl
  ·rw[ce h,aB,ih (n / 4294967296) (by omega),adk];omega
theorem qO (a b:List Int):aB (a++b)=aB a+4294967296 ^ a.length*aB b:=by
 induction a with
 | nil=>simp[aB]
 | cons x r ih=>
  rw[ae1,aB,ih,aB,adR,adr,adw,adi (4294967296 ^ r.length) 4294967296,adq];omega
theorem InW.take {m:List Int} (h:InW m) (n:Nat):InW (m.take n):=λx hx=>h x (afv hx)
theorem InW.drop {m:List Int} (h:InW m) (n:Nat):InW (m.drop n):=λx hx=>h x (afZ hx)
theorem InW.cons {x:Int} {m:List Int} (h:InW (x::m)):(0<=x/\x<4294967296)/\InW m:=⟨h x (by simp),λy hy=>h y (by simp[hy])⟩
theorem InW.at {m:List Int} (h:InW m) {i:Nat}:0<=m.getD i 0/\m.getD i 0<4294967296:=by
 rw[List.getD_eq_getElem?_getD];by_cases hi:i<m.length
 ·rw[List.getElem?_eq_getElem hi]; exact h _ (aey hi)
 ·rw[List.getElem?_eq_none (by omega)]; exact⟨by decide,by decide⟩
theorem eK:∀{m:List Int},InW m->aB m<4294967296 ^ m.length
 | [],_=>by simp[aB]
 | x::r,h=>by have ih:=eK h.cons.2;have hx:=h.cons.1;rw[aB,adR,adr];have:aB r+1<=4294967296 ^ r.length:=ih;have:=adl 4294967296 this;omega
theorem vb:∀{m:List Int},InW m->(∀ x,m.getLast? = some x->x ≠ 0)->ai (aB m)=m
 | [],_,_=>aT
 | [x],h,hl=>by
  have hx:=h.cons.1;have h0:x ≠ 0:=hl x rfl;have e:aB [x]=x.toNat:=by simp[aB]
  rw[e,ce (by omega),adK (by omega),aT,adp (by omega),afC hx.1]
 | x::y::r,h,hl=>by
  have hx:=h.cons.1;have ih:=vb h.cons.2 (λz hz=>hl z (by rw[List.getLast?_cons_cons]; exact hz));have hne:aB (y::r) ≠ 0:=by intro h0;rw[h0,aT]at ih; cases ih
  have e1:aB (x::y::r)=x.toNat+4294967296*aB (y::r):=rfl;rw[e1,ce (by omega)];have e2:(x.toNat+4294967296*aB (y::r))%4294967296=x.toNat:=by omega
  have e3:(x.toNat+4294967296*aB (y::r)) / 4294967296=aB (y::r):=by omega
  rw[e2,e3,ih,afC hx.1]
theorem yA {m:List Int} {i:Nat} (hi:i<m.length):aB (m.take (i+1))=aB (m.take i)+4294967296 ^ i*(m.getD i 0).toNat:=by rw[aex hi,qO,adV,aeH (by omega),List.getD_eq_getElem?_getD,List.getElem?_eq_getElem hi];simp[aB]
def dl (S:Nat):Nat->List Int
 | 0=>[]
 | n+1=>dl S n++[((S / 4294967296 ^ n%4294967296:Nat):Int)]
theorem al (S:Nat):∀ n,(dl S n).length=n
 | 0=>rfl
 | n+1=>by simp[dl,al S n]
theorem iN (S:Nat):∀ n,InW (dl S n)
 | 0=>λx hx=>by cases hx
 | n+1=>λx hx=>by
  rcases List.mem_append.1 hx with h | h
  ·exact iN S n x h
  ·simp only[agi]at h;subst h;omega
theorem pb (S:Nat):∀ n,aB (dl S n)=S%4294967296 ^ n
 | 0=>by simp[dl,aB,af7]
 | n+1=>by rw[dl,qO,al,pb S n,adr,af8];simp only[aB,adk,aeC,adL]
theorem xK (S n m:Nat) (h:n<m):(dl S n++List.replicate (m - n) 0).set n ((S / 4294967296 ^ n%4294967296:Nat):Int)=dl S (n+1)++List.replicate (m - (n+1)) 0:=by
 rw[afp _ _ (by rw[al]; exact ads _),al,adQ];have:m - n=(m - (n+1))+1:=by omega
 rw[this,ad0];simp[dl]
theorem oJ {S n:Nat} (h:S<4294967296 ^ n):ai (aB (dl S n))=ai S:=by rw[pb,adp h]
end Go.Mach
