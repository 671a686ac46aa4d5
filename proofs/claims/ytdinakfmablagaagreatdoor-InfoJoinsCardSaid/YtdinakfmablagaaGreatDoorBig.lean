/- Laws in plain Lean. Conditions: none. -/
import Derived.Test.YtdinakfmablagaaGreatDoorMachT
set_option linter.defProp false
set_option linter.unusedVariables false
namespace Go.Mach
def Y3 {n:Int} (h1 : -9223372036854775808 ≤ n:=by omega) (h2:n ≤ 9223372036854775807:=by omega):ai .i64 n=true:=ac h1 h2
def Y4 {n:Int} {m:Nat} (h1:0 ≤ n:=by omega) (h2:n<(m:Int):=by omega):inR n m=true:=aj h1 h2
def aE:List Int->Nat
 | []=>0
 | x::r=>x.toNat+4294967296*aE r
def InW (m:List Int):Prop:=∀ x ∈ m,0<=x/\x<4294967296
def ah (n:Nat):List Int:=if h:n=0 then[]else((n%4294967296:Nat):Int)::ah (n / 4294967296)
termination_by n
decreasing_by omega
def aX:ah 0=[]:=by rw[ah]; simp
def ct {n:Nat} (h:n ≠ 0):ah n=((n%4294967296:Nat):Int)::ah (n / 4294967296):=by rw[ah]; simp[h]
def aR:∀ n,InW (ah n):=by
 intro n;induction n using Nat.strongRecOn with
 | ind n ih=>
  by_cases h:n=0
  ·subst h; rw[aX]; intro x hx; cases hx
  ·rw[ct h];intro x hx;rcases List.mem_cons.1 hx with rfl | hx
   ·omega
   ·exact ih (n / 4294967296) (by omega) x hx
def aD:∀ n,aE (ah n)=n:=by
 intro n;induction n using Nat.strongRecOn with
 | ind n ih=>
  by_cases h:n=0
  ·subst h; rw[aX]; rfl
  ·rw[ct h,aE,ih (n / 4294967296) (by omega),Zb];omega
def qr (a b:List Int):aE (a++b)=aE a+4294967296 ^ a.length*aE b:=by
 induction a with
 | nil=>simp[aE]
 | cons x r ih=>
  rw[aaW,aE,ih,aE,ZI,Zh,Zn,Y_ (4294967296 ^ r.length) 4294967296,Zf];omega
def InW.take {m:List Int} (h:InW m) (n:Nat):InW (m.take n):=λx hx=>h x (abU hx)
def InW.drop {m:List Int} (h:InW m) (n:Nat):InW (m.drop n):=λx hx=>h x (abT hx)
def InW.cons {x:Int} {m:List Int} (h:InW (x::m)):(0<=x/\x<4294967296)/\InW m:=⟨h x (by simp),λy hy=>h y (by simp[hy])⟩
def InW.at {m:List Int} (h:InW m) {i:Nat}:0<=m.getD i 0/\m.getD i 0<4294967296:=by
 rw[List.getD_eq_getElem?_getD];by_cases hi:i<m.length
 ·rw[List.getElem?_eq_getElem hi]; exact h _ (aah hi)
 ·rw[List.getElem?_eq_none (by omega)]; exact⟨by decide,by decide⟩
def di:∀{m:List Int},InW m->aE m<4294967296 ^ m.length
 | [],_=>by simp[aE]
 | x::r,h=>by have ih:=di h.cons.2;have hx:=h.cons.1;rw[aE,ZI,Zh];have:aE r+1<=4294967296 ^ r.length:=ih;have:=Y9 4294967296 this;omega
def uH:∀{m:List Int},InW m->(∀ x,m.getLast? = some x->x ≠ 0)->ah (aE m)=m
 | [],_,_=>aX
 | [x],h,hl=>by
  have hx:=h.cons.1;have h0:x ≠ 0:=hl x rfl;have e:aE [x]=x.toNat:=by simp[aE]
  rw[e,ct (by omega),ZA (by omega),aX,Zg (by omega),abt hx.1]
 | x::y::r,h,hl=>by
  have hx:=h.cons.1;have ih:=uH h.cons.2 (λz hz=>hl z (by rw[List.getLast?_cons_cons]; exact hz));have hne:aE (y::r) ≠ 0:=by intro h0;rw[h0,aX]at ih; cases ih
  have e1:aE (x::y::r)=x.toNat+4294967296*aE (y::r):=rfl;rw[e1,ct (by omega)];have e2:(x.toNat+4294967296*aE (y::r))%4294967296=x.toNat:=by omega
  have e3:(x.toNat+4294967296*aE (y::r)) / 4294967296=aE (y::r):=by omega
  rw[e2,e3,ih,abt hx.1]
def yz {m:List Int} {i:Nat} (hi:i<m.length):aE (m.take (i+1))=aE (m.take i)+4294967296 ^ i*(m.getD i 0).toNat:=by rw[aap hi,qr,ZM,aal (by omega),List.getD_eq_getElem?_getD,List.getElem?_eq_getElem hi];simp[aE]
def dl (S:Nat):Nat->List Int
 | 0=>[]
 | n+1=>dl S n++[((S / 4294967296 ^ n%4294967296:Nat):Int)]
def al (S:Nat):∀ n,(dl S n).length=n
 | 0=>rfl
 | n+1=>by simp[dl,al S n]
def ip (S:Nat):∀ n,InW (dl S n)
 | 0=>λx hx=>by cases hx
 | n+1=>λx hx=>by
  rcases List.mem_append.1 hx with h | h
  ·exact ip S n x h
  ·simp only[ace]at h;subst h;omega
def oN (S:Nat):∀ n,aE (dl S n)=S%4294967296 ^ n
 | 0=>by simp[dl,aE,abH]
 | n+1=>by rw[dl,qr,al,oN S n,Zh,ab4];simp only[aE,Zb,aar,ZD]
def xK (S n m:Nat) (h:n<m):(dl S n++List.replicate (m - n) 0).set n ((S / 4294967296 ^ n%4294967296:Nat):Int)=dl S (n+1)++List.replicate (m - (n+1)) 0:=by
 rw[abg _ _ (by rw[al]; exact Zi _),al,ZF];have:m - n=(m - (n+1))+1:=by omega
 rw[this,ZQ];simp[dl]
def oq {S n:Nat} (h:S<4294967296 ^ n):ah (aE (dl S n))=ah S:=by rw[oN,Zg h]
end Go.Mach
