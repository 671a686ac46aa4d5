/- The machine. Conditions: none. -/
import Derived.Test.YtdinakfmablagaaGreatDoorMachO
import Derived.Recover
import Derived.Laws.Externs
import Derived.WalkKit
import Derived.ProofKit
import Derived.OpenShut
import Derived.Below
import Derived.Carry
import Derived.SizedLaws
set_option linter.unusedVariables false
section
namespace Go.Mach
inductive Atom where
 | fl (x:Fl)
 | int (n:Int)
 | bool (b:Bool)
 | fls (xs:List Fl)
 | ints (xs:List Int)
 | nat (n:Nat)
 | val (v:Value)
 | vs (cs:List V)
 | recs (t:RT) (xs:List t.Ty)
 deriving Inhabited
inductive Sh where
 | any
 | nil
 | flt
 | int (k:IntKind)
 | bool
 | val
 | ptr (n o:Nat)
 | slw (n:Nat)
 | sl (n:Nat)
 | rof
 | roi (k:IntKind)
 | fn (g:Nat) (caps:List Sh)
 | agg (cs:List Sh)
 | ro (sz:Nat) (cs:List Sh)
 | rov (sz:Nat)
 | litI (k:IntKind) (n:Int)
 | litB (b:Bool)
 | fb
 | rl (t:RT)
 | rp (cs:List Sh) (i:Nat)
 | opt (n o:Nat)
 | slz (n:Nat)
 | nilp
 deriving Inhabited
mutual
def Sh.ext:Sh->V->Option (List Atom)
 | .any,.any=>some []
 | .nil,.nil=>some []
 | .flt,.flt x=>some [.fl x]
 | .int k,.int k' n=>cond (decide (k=k')) (some [.int n]) none
 | .bool,.bool b=>some [.bool b]
 | .val,.val v=>some [.val v]
 | .ptr n o,.ptr n' o'=>cond (n==n'&&o==o') (some []) none
 | .slw n,.slw n'=>cond (n==n') (some []) none
 | .sl n,.sl n' o l=>cond (n==n') (some [.nat o,.nat l]) none
 | .rof,.rof xs=>some [.fls xs]
 | .roi k,.roi k' xs=>cond (decide (k=k')) (some [.ints xs]) none
 | .fn g caps,.fn g' caps'=>cond (g==g') (zu caps caps') none
 | .agg cs,.agg cs'=>zu cs cs'
 | .ro sz cs,.ro sz' cs'=>cond (sz==sz') (zu cs cs') none
 | .rov sz,.ro sz' cs=>cond (sz==sz') (some [.vs cs]) none
 | .litI k n,.int k' n'=>cond (decide (k=k')&&decide (n=n')) (some []) none
 | .litB b,.bool b'=>cond (b==b') (some []) none
 | .fb,.val (.float .f64 b)=>some [.nat b]
 | .rl t,.rl t' xs=>cond (RT.beq t t') (some [.recs t' xs]) none
 | .rp cs i,.rp cs' i'=>cond (i==i') (zu cs cs') none
 | .opt n o,.opt n' e o'=>cond (n==n'&&o==o') (some [.nat e]) none
 | .slz n,.sl n' o l=>cond (n==n'&&o==0) (some [.nat l]) none
 | .nilp,.val (.pointer none)=>some []
 | _,_=>none
def zu:List Sh->List V->Option (List Atom)
 | [],[]=>some []
 | s::ss,v::vs=>match Sh.ext s v,zu ss vs with
  | some a,some b=>some (a++b)
  | _,_=>none
 | _,_=>none
end
mutual
def Sh.build:Sh->List Atom->V × List Atom
 | .any,r=>(.any,r)
 | .nil,r=>(.nil,r)
 | .flt,.fl x::r=>(.flt x,r)
 | .int k,.int n::r=>(.int k n,r)
 | .bool,.bool b::r=>(.bool b,r)
 | .val,.val v::r=>(.val v,r)
 | .ptr n o,r=>(.ptr n o,r)
 | .slw n,r=>(.slw n,r)
 | .sl n,.nat o :: .nat l::r=>(.sl n o l,r)
 | .rof,.fls xs::r=>(.rof xs,r)
 | .roi k,.ints xs::r=>(.roi k xs,r)
 | .fn g caps,r=>match mN caps r with
  | (vs,r)=>(.fn g vs,r)
 | .agg cs,r=>match mN cs r with
  | (vs,r)=>(.agg vs,r)
 | .ro sz cs,r=>match mN cs r with
  | (vs,r)=>(.ro sz vs,r)
 | .rov sz,.vs cs::r=>(.ro sz cs,r)
 | .litI k n,r=>(.int k n,r)
 | .litB b,r=>(.bool b,r)
 | .fb,.nat b::r=>(.val (.float .f64 b),r)
 | .rl _,.recs t xs::r=>(.rl t xs,r)
 | .rp cs i,r=>match mN cs r with
  | (vs,r)=>(.rp vs i,r)
 | .opt n o,.nat e::r=>(.opt n e o,r)
 | .slz n,.nat l::r=>(.sl n 0 l,r)
 | .nilp,r=>(.val (.pointer none),r)
 | _,r=>(.any,r)
def mN:List Sh->List Atom->List V × List Atom
 | [],r=>([],r)
 | s::ss,r=>match Sh.build s r with
  | (v,r)=>match mN ss r with
   | (vs,r)=>(v::vs,r)
end
mutual
theorem Sh.ext_build:∀(s:Sh) (v:V) (a:List Atom),s.ext v=some a -> ∀ r,s.build (a++r)=(v,r)
 | .any,v,a,h,r=>by cases v <;> simp[Sh.ext]at h; subst h; rfl
 | .nil,v,a,h,r=>by cases v <;> simp[Sh.ext]at h; subst h; rfl
 | .flt,v,a,h,r=>by cases v <;> simp[Sh.ext]at h; subst h; rfl
 | .int k,v,a,h,r=>by
  cases v <;> simp[Sh.ext]at h
  rename_i k' n;by_cases e:k=k'
  ·subst e; simp at h; subst h; rfl
  ·simp[e]at h
 | .bool,v,a,h,r=>by cases v <;> simp[Sh.ext]at h; subst h; rfl
 | .val,v,a,h,r=>by cases v <;> simp[Sh.ext]at h; subst h; rfl
 | .ptr n o,v,a,h,r=>by
  cases v <;> simp[Sh.ext]at h
  rename_i n' o';by_cases e:n=n'/\o=o'
  ·obtain⟨rfl,rfl⟩:=e; simp at h; subst h; rfl
  ·have:(n==n'&&o==o')=false:=by simpa using e
   rw[this]at h; cases h
 | .slw n,v,a,h,r=>by
  cases v <;> simp[Sh.ext]at h
  rename_i n';by_cases e:n=n'
  ·subst e; simp at h; subst h; rfl
  ·have:(n==n')=false:=by simpa using e
   rw[this]at h; cases h
 | .sl n,v,a,h,r=>by
  cases v <;> simp[Sh.ext]at h
  rename_i n' o l;by_cases e:n=n'
  ·subst e; simp at h; subst h; rfl
  ·have:(n==n')=false:=by simpa using e
   rw[this]at h; cases h
 | .rof,v,a,h,r=>by cases v <;> simp[Sh.ext]at h; subst h; rfl
 | .roi k,v,a,h,r=>by
  cases v <;> simp[Sh.ext]at h
  rename_i k' n;by_cases e:k=k'
  ·subst e; simp at h; subst h; rfl
  ·simp[e]at h
 | .fn g caps,v,a,h,r=>by
  cases v <;> simp only[Sh.ext,reduceCtorEq]at h
  rename_i g' caps';by_cases e:g=g'
  ·subst e;simp only[aha,afl]at h;simp only[Sh.build,iq caps caps' a h r]
  ·have:(g==g')=false:=by simpa using e
   rw[this]at h; cases h
 | .agg cs,v,a,h,r=>by
  cases v <;> simp only[Sh.ext,reduceCtorEq]at h
  rename_i cs';simp only[Sh.build,iq cs cs' a h r]
 | .ro sz cs,v,a,h,r=>by
  cases v <;> simp only[Sh.ext,reduceCtorEq]at h
  rename_i sz' cs';by_cases e:sz=sz'
  ·subst e;simp only[aha,afl]at h;simp only[Sh.build,iq cs cs' a h r]
  ·have:(sz==sz')=false:=by simpa using e
   rw[this]at h; cases h
 | .rov sz,v,a,h,r=>by
  cases v <;> simp only[Sh.ext,reduceCtorEq]at h
  rename_i sz' cs';by_cases e:sz=sz'
  ·subst e;simp only[aha,afl]at h;cases h; rfl
  ·have:(sz==sz')=false:=by simpa using e
   rw[this]at h; cases h
 | .litI k n,v,a,h,r=>by
  cases v <;> simp only[Sh.ext,reduceCtorEq]at h
  rename_i k' n';by_cases e:k=k'/\n=n'
  ·obtain⟨rfl,rfl⟩:=e; simp at h; subst h; rfl
  ·have:(decide (k=k')&&decide (n=n'))=false:=by simpa using e
   rw[this]at h; cases h
 | .litB b,v,a,h,r=>by
  cases v <;> simp only[Sh.ext,reduceCtorEq]at h
  rename_i b';by_cases e:b=b'
  ·subst e; simp at h; subst h; rfl
  ·have:(b==b')=false:=by simpa using e
   rw[this]at h; cases h
 | .fb,v,a,h,r=>by
  cases v with
  | val u=>
   cases u with
   | float k b=>cases k <;> simp[Sh.ext]at h; subst h; rfl
   | _=>simp[Sh.ext]at h
  | _=>simp[Sh.ext]at h
 | .rl t,v,a,h,r=>by
  cases v <;> simp only[Sh.ext,reduceCtorEq]at h
  rename_i t' xs;cases e:RT.beq t t' with
  | false=>rw[e]at h; cases h
  | true=>rw[e]at h; cases h; rfl
 | .rp cs i,v,a,h,r=>by
  cases v <;> simp only[Sh.ext,reduceCtorEq]at h
  rename_i cs' i';by_cases e:i=i'
  ·subst e;simp only[aha,afl]at h;simp only[Sh.build,iq cs cs' a h r]
  ·have:(i==i')=false:=by simpa using e
   rw[this]at h; cases h
 | .opt n o,v,a,h,r=>by
  cases v <;> simp only[Sh.ext,reduceCtorEq]at h
  rename_i n' e o';by_cases e1:n=n'/\o=o'
  ·obtain⟨rfl,rfl⟩:=e1; simp at h; subst h; rfl
  ·have:(n==n'&&o==o')=false:=by simpa using e1
   rw[this]at h; cases h
 | .slz n,v,a,h,r=>by
  cases v <;> simp only[Sh.ext,reduceCtorEq]at h
  rename_i n' o l;by_cases e1:n=n'/\o=0
  ·obtain⟨rfl,rfl⟩:=e1; simp at h; subst h; rfl
  ·have:(n==n'&&o==0)=false:=by simpa using e1
   rw[this]at h; cases h
 | .nilp,v,a,h,r=>by
  cases v with
  | val u=>
   cases u with
   | pointer p=>cases p <;> simp[Sh.ext]at h; subst h; rfl
   | _=>simp[Sh.ext]at h
  | _=>simp[Sh.ext]at h
theorem iq:∀(s:List Sh) (v:List V) (a:List Atom),zu s v=some a -> ∀ r,mN s (a++r)=(v,r)
 | [],v,a,h,r=>by cases v <;> simp[zu]at h; subst h; rfl
 | s::ss,v,a,h,r=>by
  cases v with
  | nil=>simp[zu]at h
  | cons v vs=>
   simp only[zu]at h;split at h
   ·rename_i a1 a2 h1 h2;cases h;simp only[mN,afC,Sh.ext_build s v a1 h1,iq ss vs a2 h2]
   ·cases h
end
inductive BSh where
 | flts
 | ints (k:IntKind)
 | cells (cs:List Sh)
 | cvs
 | recs (t:RT)
 | own (tt:Nat) (t:RT)
def BSh.ext:BSh->Body->Option (List Atom)
 | .flts,.flts xs=>some [.fls xs]
 | .ints k,.ints k' xs=>cond (decide (k=k')) (some [.ints xs]) none
 | .cells cs,.cells cs'=>zu cs cs'
 | .cvs,.cells cs=>some [.vs cs]
 | .recs t,.recs t' xs=>cond (RT.beq t t') (some [.recs t' xs]) none
 | .own tt t,.own tt' t' xs []=>cond (tt==tt'&&RT.beq t t') (some [.recs t' xs]) none
 | _,_=>none
def BSh.build:BSh->List Atom->Body × List Atom
 | .flts,.fls xs::r=>(.flts xs,r)
 | .ints k,.ints xs::r=>(.ints k xs,r)
 | .cells cs,r=>match mN cs r with
  | (vs,r)=>(.cells vs,r)
 | .cvs,.vs cs::r=>(.cells cs,r)
 | .recs _,.recs t xs::r=>(.recs t xs,r)
 | .own tt _,.recs t xs::r=>(.own tt t xs [],r)
 | _,r=>(.cells [],r)
theorem BSh.ext_build (s:BSh) (v:Body) (a:List Atom) (h:s.ext v=some a) (r:List Atom):s.build (a++r)=(v,r):=by
 cases s with
 | flts=>cases v <;> simp[BSh.ext]at h; subst h; rfl
 | ints k=>
  cases v <;> simp[BSh.ext]at h
  rename_i k' n;by_cases e:k=k'
  ·subst e; simp at h; subst h; rfl
  ·simp[e]at h
 | cells cs=>
  cases v <;> simp only[BSh.ext,reduceCtorEq]at h
  rename_i cs';simp only[BSh.build,iq cs cs' a h r]
 | cvs=>cases v <;> simp[BSh.ext]at h; subst h; rfl
 | recs t=>
  cases v <;> simp only[BSh.ext,reduceCtorEq]at h
  rename_i t' xs;cases e:RT.beq t t' with
  | false=>rw[e]at h; cases h
  | true=>rw[e]at h; cases h; rfl
 | own tt t=>
  cases v with
  | own tt' t' xs hh=>
   cases hh with
   | cons q r=>simp[BSh.ext]at h
   | nil=>
    simp only[BSh.ext]at h;cases e:(tt==tt'&&RT.beq t t')with
    | false=>rw[e]at h; cases h
    | true=>
     rw[e]at h;obtain rfl:tt=tt':=by simp at e; exact e.1
     cases h; rfl
  | _=>simp[BSh.ext]at h
abbrev Kq:=Option (Nat × Nat × BSh)
def zw:List Kq->aL->Option (List Atom)
 | [],[]=>some []
 | none::ss,none::bs=>zw ss bs
 | some (e,sz,c)::ss,some b::bs=>cond (e==b.e&&sz==b.sz) (match c.ext b.c,zw ss bs with
  | some a,some r=>some (a++r)
  | _,_=>none) none
 | _,_=>none
def ki:List Kq->List Atom->aL
 | [],_=>[]
 | none::ss,r=>none::ki ss r
 | some (e,sz,c)::ss,r=>match c.build r with
  | (c,r)=>some ⟨e,sz,c⟩::ki ss r
theorem qB:∀(s:List Kq) (M:aL) (a:List Atom),zw s M=some a->ki s a=M
 | [],M,a,h=>by cases M <;> simp[zw]at h; rfl
 | none::ss,M,a,h=>by
  cases M with
  | nil=>simp[zw]at h
  | cons b bs=>
   cases b with
   | none=>simp only[zw]at h; simp only[ki,qB ss bs a h]
   | some b=>simp[zw]at h
 | some (e,sz,c)::ss,M,a,h=>by
  cases M with
  | nil=>simp[zw]at h
  | cons b bs=>
   cases b with
   | none=>simp[zw]at h
   | some b=>
    simp only[zw]at h;by_cases e':e=b.e/\sz=b.sz
    ·obtain⟨rfl,rfl⟩:=e';simp only[aha,Bool.and_self,afl]at h;split at h
     ·rename_i a1 a2 h1 h2;cases h;simp only[ki,BSh.ext_build c b.c a1 h1,qB ss bs a2 h2]
     ·cases h
    ·have:(e==b.e&&sz==b.sz)=false:=by simpa using e'
     rw[this]at h; cases h
structure StSh where
 F:List Sh
 M:List Kq
def StSh.ext (s:StSh) (t:St):Option (List Atom):=
 match zu s.F t.F,zw s.M t.M with
 | some a,some b=>some (a++b)
 | _,_=>none
def StSh.build (s:StSh) (a:List Atom):St:=
 match mN s.F a with
 | (F,r)=>⟨F,ki s.M r⟩
theorem StSh.ext_build {s:StSh} {t:St} {a:List Atom} (h:s.ext t=some a):t=s.build a:=by
 unfold StSh.ext at h;split at h
 ·rename_i a1 a2 h1 h2;cases h;simp only[StSh.build,iq s.F t.F a1 h1,qB s.M t.M a2 h2]
 ·cases h
structure FnSh where
 A:List Sh
 H:List Kq
def FnSh.ext (s:FnSh) (args:List V) (H:List Blk):Option (List Atom):=
 match zu s.A args,zw s.H (H.map some)with
 | some a,some b=>some (a++b)
 | _,_=>none
def FnSh.args (s:FnSh) (a:List Atom):List V:=(mN s.A a).1
def FnSh.heap (s:FnSh) (a:List Atom):aL:=ki s.H (mN s.A a).2
theorem FnSh.ext_build {s:FnSh} {args:List V} {H:List Blk} {a:List Atom} (h:s.ext args H=some a):args=s.args a/\H.map some=s.heap a:=by
 unfold FnSh.ext at h;split at h
 ·rename_i a1 a2 h1 h2;cases h;simp only[FnSh.args,FnSh.heap,iq s.A args a1 h1,qB s.H _ a2 h2,and_self]
 ·cases h
def fe (sh:FnSh) (S:List Atom->(V->List Blk->Bool)->Bool):Fs:=λargs H k=>match sh.ext args H with
 | some a=>S a k
 | none=>false
def D6 (F G:Fs) (sh:FnSh):Fs:=λargs H k=>match sh.ext args H with
 | some _=>F args H k
 | none=>G args H k
theorem QZ {P:Program} {f:Nat} {F G:Fs} {sh:FnSh} (h1:bO P f F) (h2:bO P f G):bO P f (D6 F G sh):=by
 intro args H k h;unfold D6 at h;split at h
 ·exact h1 args H k h
 ·exact h2 args H k h
theorem qQ {H:List Blk} {H':List Blk} (h:H.map some=H'.map some):H=H':=by have:=aio (List.filterMap id) h;simpa using this
theorem zL {cx:Cx} (hO:OS cx) {f:Nat} (sh:FnSh) (S:List Atom->(V->List Blk->Bool)->Bool) (an:Nat->Option Ann) (n base:Nat) (hn:(lps cx.P f).length=n) (hk:∀ i,i<n->qn cx base an (lp cx.P f i))
  (h:∀ a k,S a k=true -> ∃ H,sh.heap a=H.map some/\H.length=base/\kh cx an f (sh.args a) H k=true):bO cx.P f (fe sh S):=by
 refine xM hO n hn λargs H k hs=>?_
 unfold fe at hs;split at hs
 ·rename_i a ha;obtain⟨rfl,e2⟩:=FnSh.ext_build ha;obtain⟨H',g1,g2,g3⟩:=h a k hs;rw[g1]at e2;obtain rfl:=qQ e2;exact⟨an,λi hi=>by rw[g2]; exact hk i hi,g3⟩
 ·cases hs
theorem Qi {cx:Cx} (hO:OS cx) {f:Nat} (an:Nat->Option Ann) (n:Nat) (hn:(lps cx.P f).length=n) (hk:∀ i,i<n->qn cx 0 an (lp cx.P f i)) {args:List V}
  (h:kh cx an f args [] (λr H=>match r,H with | .bool b,[]=>b | _,_=>false)=true):OkC cx.P f args [] (.bool true) []:=by
 obtain⟨r,H',⟨_,h1⟩,h2⟩:=si hO (λfn c hfn hc=>dE c 0 λp hp=>by
  have e:lps cx.P f=lA c 0:=by simp[lps,hfn,hc]
  rw[<- e]at hp;obtain⟨i,hi,rfl⟩:=ag2 hp;have:=hk i (by omega);unfold lp at this
  rwa [List.getD_eq_getElem?_getD,List.getElem?_eq_getElem hi]at this) h
 split at h2
 ·subst h2; exact h1
 ·cases h2
theorem iT {P:Program} {f:Nat} {sh:FnSh} {S S':List Atom->(V->List Blk->Bool)->Bool} (h:bO P f (fe sh S)) (hs:∀ a k,S' a k=true->S a k=true):bO P f (fe sh S'):=by
 intro args H k hk;refine h args H k ?_;unfold fe at hk ⊢;split at hk
 ·exact hs _ _ hk
 ·cases hk
def fY (by':Nat) (l c:Int):Bool:=decide (0<=l/\l<=c/\c<=9223372036854775807/\(by':Int)*c<=140737488355328)
def aD (op:BinOp) (q:IntKind) (a b:Int):Int:=(rq op q a b).getD 0
def qR:List (StSh × (List Atom->K->Bool))->St->K->Bool
 | [],_,_=>false
 | (sh,S)::r,s,κ=>match sh.ext s with
  | some a=>S a κ
  | none=>qR r s κ
def wF (cx:Cx) (base:Nat) (an:Nat->Option Ann) (p:Nat × Code) (x:StSh × (List Atom->K->Bool)):Prop:=
 ∀ a κ,x.2 a κ=true->zy cx.N (λs k=>cS cx base an p.2 p.1 s (tc cx.P base (an p.1) κ k)) (x.1.build a)=true
def EL (cx:Cx) (base:Nat) (an:Nat->Option Ann) (p:Nat × Code):List (StSh × (List Atom->K->Bool))->Prop
 | []=>True
 | x::r=>wF cx base an p x/\EL cx base an p r
theorem FJ {cx:Cx} {base:Nat} {an:Nat->Option Ann} {p:Nat × Code} (l:List (StSh × (List Atom->K->Bool))) (hh:xP (an p.1)=some (qR l)) (h:EL cx base an p l):qn cx base an p:=by
 intro hk e s κ hs;rw[hh]at e;cases e;clear hh;revert hs h;induction l with
 | nil=>intro _ hs; simp[qR]at hs
 | cons x r ih=>
  intro h hs;obtain⟨sh,S⟩:=x;simp only[qR]at hs;split at hs
  ·rename_i a ha;rw[StSh.ext_build ha];exact h.1 a κ hs
  ·exact ih h.2 hs
def ah {σ:Type}:Nat->(σ->(σ->Bool)->Bool)->σ->Bool
 | 0,_,_=>false
 | n+1,step,s=>step s (ah n step)
theorem Q6 {σ:Type} {step:St->(St->Bool)->Bool} {stepG:σ->(σ->Bool)->Bool} (C:σ->St) (h:∀ v K,step (C v) K=stepG v λv'=>K (C v')):∀ n v,zy n step (C v)=ah n stepG v:=by
 intro n;induction n with
 | zero=>intro v; rfl
 | succ n ih=>
  intro v;show step (C v) (zy n step)=stepG v (ah n stepG);rw[h];congr 1;funext v';exact ih v'
theorem vL {σ:Type} {step:σ->(σ->Bool)->Bool} {C:Nat->σ} {n:Nat} (hs:∀ i,i<n -> ∀ K:σ->Bool,K (C (i+1))=true->step (C i) K=true) (hx:∀ K,step (C n) K=true) :
  ∀ m,m<=n -> ∀ N,m<N->ah N step (C (n - m))=true:=by
 intro m;induction m with
 | zero=>
  intro _ N hN;cases N with
  | zero=>omega
  | succ N=>exact hx _
 | succ m ih=>
  intro hm N hN;cases N with
  | zero=>omega
  | succ N=>
   have:=ih (by omega) N (by omega);refine hs (n - (m+1)) (by omega) _ ?_;rw[show n - (m+1)+1=n - m from by omega];exact this
theorem QL (e sz:Nat) (c c':V) (r:List V) (tl:List Blk):FrB 1 (⟨e,sz,.cells (c::r)⟩::tl) (⟨e,sz,.cells (c'::r)⟩::tl)=True:=eq_true ⟨e,sz,c,c',r,tl,rfl,rfl⟩
theorem QM (H:List Blk):FrB 2 H H=True:=eq_true rfl
theorem QN (p:Nat) (H:List Blk) (B:Blk):FrB (p+3) H (H.set p B)=True:=eq_true ⟨B,rfl⟩
open Classical in
theorem Xh {md:Nat} {sh:FnSh} {sp:List Atom->(V->List Blk->Bool)->Bool}
  (h:∀ a k,sp a k=true -> ∃ H,sh.heap a=H.map some/\sp a (λr H'=>k r H'&&decide (FrB md H H'))=true):FrF md (fe sh sp):=by
 intro args H k hk;unfold fe at hk ⊢;split at hk
 ·rename_i a ha;obtain⟨-,e2⟩:=FnSh.ext_build ha;obtain⟨H0,h1,h2⟩:=h a k hk;rw[h1]at e2;obtain rfl:=qQ e2;exact h2
 ·cases hk
theorem Xi {md:Nat} {F G:Fs} {sh:FnSh} (h1:FrF md F) (h2:FrF md G):FrF md (D6 F G sh):=by
 intro args H k h;unfold D6 at h ⊢;split at h
 ·rename_i e; exact h1 args H k h
 ·rename_i e; exact h2 args H k h
def KY (base:Nat) (M:aL) (n:Nat):Bool:=match aq M n with
 | some ⟨_,sz,.flts _⟩=>sz==1&&decide (base<=n)
 | some ⟨_,sz,.ints _ _⟩=>sz==1&&decide (base<=n)
 | some ⟨_,sz,.recs t _⟩=>sz==t.sz&&decide (base<=n)
 | some ⟨_,sz,.own _ _ _ []⟩=>sz==1&&decide (base<=n)
 | _=>false
def FF (base:Nat) (M:aL) (n:Nat):Bool:=KY base M n||(match aq M n with
 | some ⟨_,_,.cells _⟩=>decide (base<=n)
 | _=>false)
def oI (md:Bool) (base:Nat) (M:aL):Nat->Bool:=cond md (FF base M) (KY base M)
abbrev Rc:=List V->(List V->Bool)->Bool
mutual
def DE (gn:Nat->Bool) (M:aL) (rc:Rc):V->(V->Bool)->Bool
 | .slw n,k=>cond (gn n) (match aq M n with
  | some ⟨_,_,.flts xs⟩=>k (.rof xs)
  | some ⟨_,_,.ints q xs⟩=>k (.roi q xs)
  | some ⟨_,_,.recs t xs⟩=>k (.rl t xs)
  | some ⟨_,_,.own _ a xs []⟩=>k (.rl (.ptr a) xs)
  | some ⟨_,_,.own _ _ _ (_::_)⟩=>false
  | some ⟨_,sz,.cells cs⟩=>rc cs λcs'=>k (.ro sz cs')
  | none=>false) (k (.slw n))
 | .sl n o len,k=>cond (gn n) (match aq M n with
  | some ⟨_,_,.flts xs⟩=>decide (o+len<=xs.length)&&k (.rof ((xs.drop o).take len))
  | some ⟨_,_,.ints q xs⟩=>decide (o+len<=xs.length)&&k (.roi q ((xs.drop o).take len))
  | some ⟨_,_,.recs t xs⟩=>t.sz==1&&(decide (o+len<=xs.length)&&k (.rl t ((xs.drop o).take len)))
  | _=>false) (k (.sl n o len))
 | .ptr n o,k=>cond (gn n) (match aq M n with
  | some ⟨_,_,.cells cs⟩=>rc cs λcs'=>k (.rp cs' o)
  | _=>k .any) (k (.ptr n o))
 | .opt n e o,k=>cond (gn n) (match aq M n with
  | some ⟨_,_,.own _ a xs []⟩=>k (.rp (a.cells (xs.getD e a.dflt)) o)
  | _=>false) (k (.opt n e o))
 | .agg cs,k=>HL gn M rc cs λcs'=>k (.agg cs')
 | .tup cs,k=>HL gn M rc cs λcs'=>k (.tup cs')
 | .fn g cs,k=>HL gn M rc cs λcs'=>k (.fn g cs')
 | .ro sz cs,k=>k (.ro sz cs)
 | .rp cs i,k=>k (.rp cs i)
 | v,k=>k v
def HL (gn:Nat->Bool) (M:aL) (rc:Rc):List V->(List V->Bool)->Bool
 | [],k=>k []
 | v::r,k=>DE gn M rc v λv'=>HL gn M rc r λr'=>k (v'::r')
end
def Ox (gn:Nat->Bool) (M:aL):Nat->Rc
 | 0=>λ_ _=>false
 | d+1=>HL gn M (Ox gn M d)
def VG (P:Program) (gn:Nat->Bool) (M:aL) (b:Blk) (k:Blk->Bool):Bool:=match b.c with
 | .cells cs=>Ox gn M 4 cs λcs'=>k { b with c:=.cells (lJ P (kinds P 4 b.e) cs') }
 | _=>k b
def HJ (P:Program) (gn:Nat->Bool) (M:aL):Nat->aL->(aL->Bool)->Bool
 | _,[],k=>k []
 | n,none::r,k=>HJ P gn M (n+1) r λr'=>k (none::r')
 | n,some b::r,k=>cond (gn n) (HJ P gn M (n+1) r λr'=>k (none::r')) (VG P gn M b λb'=>HJ P gn M (n+1) r λr'=>k (some b'::r'))
def VH (P:Program) (md:Bool) (base:Nat) (s:St) (k:St->Bool):Bool:=Ox (oI md base s.M) s.M 4 s.F λF=>HJ P (oI md base s.M) s.M 0 s.M λM=>k ⟨F,M⟩
def EO (gn:Nat->Bool) (M:aL) (L':LK):Prop:=∀ m bl,L' m=some bl -> ∃ bl0,aq M m=some bl0/\bl.c.holes=bl0.c.holes/\gn m=false
def Own (base:Nat) (gn:Nat->Bool):Prop:=∀ n,gn n=true->base<=n
theorem Gr {G:Gh} {ρ:Rho} {gn:Nat->Bool} {M:aL} {L':LK} (hL:EO gn M L') {b:Nat} (h:okc G ρ (aq M) b):okc G ρ L' b:=by refine⟨h.1,λn blk p hn hp hh=>?_⟩;obtain⟨blk',hb,he,-⟩:=hL n blk hn;exact h.2 n blk' p hb hp (iu he hh)
theorem AR {G:Gh} {w:World} {ρ:Rho} {gn:Nat->Bool} {M:aL} {L':LK} (hL:EO gn M L'):Keeps (okc G ρ (aq M)) w ρ (okc G ρ L') w ρ:=
 ⟨λ_ _ h=>h,λ_ _ h=>⟨Gr hL h,rfl⟩,afw _⟩
theorem Iy {G:Gh} {w:World} {ρ:Rho} {gn:Nat->Bool} {M:aL} {L':LK} (hs:SimW G w ρ (aq M)) (hex:∀ b,¬ G.ex b) (hL:EO gn M L') (ho:Own G.base gn) {m:Nat} (hg:gn m=true) {blk:Blk} {p:Place} (hb:aq M m=some blk) (hp:ρ m=some (some p)) {b:Nat} (hpb:hasB p blk.c b):okc G ρ L' b:=by refine⟨(hs.own m p (ho m hg) hp b hpb.has).elim .inr (λh=>absurd h (hex b)),λk blk' p' hk hp' heq=>?_⟩;obtain⟨blk'',hb'',he,h2⟩:=hL k blk' hk;have:=hs.inj k m blk'' blk p' p hb'' hb hp' hp b (iu he heq) hpb;subst this;rw[hg]at h2; cases h2
theorem LV {G:Gh} {w:World} {ρ:Rho} {gn:Nat->Bool} {M:aL} {L':LK} (hs:SimW G w ρ (aq M)) (hex:∀ b,¬ G.ex b) (hL:EO gn M L') (ho:Own G.base gn) {n:Nat} (hg:gn n=true):Keeps (okL (okc G ρ (aq M)) ρ (aq M) [n]) w ρ (okc G ρ L') w ρ:=by
 refine⟨λ_ _ h=>h,λb _ h=>⟨?_,rfl⟩,afw _⟩;rcases h with h | ⟨m,p,blk,hm,hb,hp,hpb⟩
 ·exact Gr hL h
 ·simp at hm; subst hm;exact Iy hs hex hL ho hg hb hp hpb
theorem Fg {xs:List Fl} {o n:Nat} (h:o+n<=xs.length):Body.cut (.flts xs) o n=some (.flts ((xs.drop o).take n)):=by show cond (decide (o+n<=xs.length)) _ _=_;rw[afi h]; rfl
theorem Fi {q:IntKind} {xs:List Int} {o n:Nat} (h:o+n<=xs.length):Body.cut (.ints q xs) o n=some (.ints q ((xs.drop o).take n)):=by show cond (decide (o+n<=xs.length)) _ _=_;rw[afi h]; rfl
theorem Fj {t:RT} {xs:List t.Ty} {o n:Nat} (hz:t.sz=1) (h:o+n<=xs.length):Body.cut (.recs t xs) o n=some (.recs t ((xs.drop o).take n)):=by show cond (t.sz==1) (cond (decide (o+n<=xs.length)) _ _) _=_;rw[hz,afi h]; rfl
abbrev Frz (base:Nat) (gn:Nat->Bool) (M:aL) (v v':V):Prop:=∀(G:Gh) (w:World) (ρ:Rho) (L':LK) (u:Value),G.base=base->(∀ b,¬ G.ex b)->SimW G w ρ (aq M)->EO gn M L'->Rep (okc G ρ (aq M)) w ρ v u->Rep (okc G ρ L') w ρ v' u
theorem ir {base:Nat} {gn:Nat->Bool} {M:aL} (v:V):Frz base gn M v v:=λ_ _ _ _ _ _ _ _ hL h=>h.mono (AR hL)
theorem ml {base:Nat} {gn:Nat->Bool} {M:aL} {n:Nat} {v v':V} (ho:Own base gn) (hg:gn n=true) (hl:jS M 1 v=some v') (ht:mP M 1 v=[n]):Frz base gn M v v':=λG w ρ L' u hG hex hs hL h=>by subst hG;have:=nW hs [n] (λ_ _=>rfl) 1 v v' u hl (λm hm=>by rw[ht]at hm; exact hm) h;exact this.mono (LV hs hex hL ho hg)
abbrev Qr (base:Nat) (gn:Nat->Bool) (M:aL) (vs vs':List V):Prop:=vs.length=vs'.length /\ ∀(i:Nat) v',vs'[i]? = some v' -> ∃ v,vs[i]? = some v/\Frz base gn M v v'
def Vp (base:Nat) (gn:Nat->Bool) (M:aL) (rc:Rc):Prop:=∀ cs k,rc cs k=true -> ∃ cs',k cs'=true/\Qr base gn M cs cs'
theorem Ct {base:Nat} {gn:Nat->Bool} {M:aL} {cs cs':List V} (hf:Qr base gn M cs cs') {G:Gh} {w:World} {ρ:Rho} {L':LK} (hG:G.base=base) (hex:∀ b,¬ G.ex b) (hs:SimW G w ρ (aq M)) (hL:EO gn M L') {p:Place} {cur:Array Value} {e:Nat} (hc:w.heap[p.b]? = some (.cells cur e (0,0)))
  (hb:BodyRep (okc G ρ (aq M)) w ρ (.cells cs) cur):∃ g:Nat->Value,(∀ j,j<cs'.length->w.cell? ⟨p.b,j,none⟩=some (g j))/\(∀ j,j<cs'.length->(g j).oneCell'=true) /\ ∀(j:Nat) c,cs'[j]? = some c->Rep (okc G ρ L') w ρ c (g j):=by
 have hf':∀ j,∃ u:Value,j<cs'.length->(w.cell? ⟨p.b,j,none⟩=some u/\u.oneCell'=true /\ ∀ c,cs'[j]? = some c->Rep (okc G ρ L') w ρ c u):=by
  intro j;by_cases hj:j<cs'.length
  ·obtain⟨v,hv,hfz⟩:=hf.2 j cs'[j] (List.getElem?_eq_getElem hj);obtain⟨u,u1,u2,u3⟩:=hb j v hv;exact⟨u,λ_=>⟨aW hc u1,u2,λc hc=>by rw[List.getElem?_eq_getElem hj]at hc; cases hc; exact hfz G w ρ L' u hG hex hs hL u3⟩⟩
  ·exact⟨.bool false,λh=>absurd h hj⟩
 obtain⟨g,hg⟩:=Classical.skolem.1 hf';exact⟨g,λj hj=>(hg j hj).1,λj hj=>(hg j hj).2.1,λj c hc=>(hg j (List.getElem?_eq_some_iff.1 hc).1).2.2 c hc⟩
theorem QQ {base:Nat} {gn:Nat->Bool} {M:aL} {n o e sz:Nat} {cs cs':List V} (ho:Own base gn) (hg:gn n=true) (hb:aq M n=some ⟨e,sz,.cells cs⟩) (hf:Qr base gn M cs cs'):Frz base gn M (.ptr n o) (.rp cs' o):=λG w ρ L' u hG hex hs hL h=>by obtain⟨p,hp,rfl⟩:=h.ptr_inv;obtain⟨cur,c1,c2,c3,c4,c5,c6⟩:=hs.place hb hp;obtain⟨g,g1,g2,g3⟩:=Ct hf hG hex hs hL c1 c6;subst hG;exact .rp cs' o p.b o g (Iy hs hex hL ho hg hb hp (bY _ _)) (Array.getElem?_eq_some_iff.1 c1).1 (λj hj=>g1 _ hj) g2 g3
theorem QR {base:Nat} {gn:Nat->Bool} {M:aL} {n e sz:Nat} {cs cs':List V} (ho:Own base gn) (hg:gn n=true) (hb:aq M n=some ⟨e,sz,.cells cs⟩) (hf:Qr base gn M cs cs'):Frz base gn M (.slw n) (.ro sz cs'):=λG w ρ L' u hG hex hs hL h=>by
 rcases h.slw_inv with⟨p,hp,rfl⟩ | ⟨hp,rfl⟩
 ·obtain⟨cur,c1,c2,c3,c4,c5,c6⟩:=hs.place hb hp;obtain⟨g,g1,g2,g3⟩:=Ct hf hG hex hs hL c1 c6;subst hG;exact .ro sz cs' p.b 0 p.len p.cap g (Iy hs hex hL ho hg hb hp (bY _ _)) (Array.getElem?_eq_some_iff.1 c1).1 (by rw[<- hf.1]; exact c3) c4 (λj hj=>by rw[afL]; exact g1 j hj) g2 g3
 ·have h0:=hs.empty hb hp;have:cs'=[]:=afI (by rw[<- hf.1]; exact h0);subst this; exact .ron _
mutual
theorem HK {base:Nat} {gn:Nat->Bool} {M:aL} {rc:Rc} (ho:Own base gn) (hsz:∀ n e sz c,gn n=true->aq M n=some ⟨e,sz,c⟩->(∀ xs,c=.flts xs->sz=1)/\(∀ q xs,c=.ints q xs->sz=1)/\(∀ t xs,c=.recs t xs->sz=t.sz) /\ ∀ t a xs,c=.own t a xs []->sz=1) (hrc:Vp base gn M rc):∀(v:V) (k:V->Bool),DE gn M rc v k=true -> ∃ v',k v'=true/\Frz base gn M v v'
 | .slw n,k,h=>by
  simp only[DE]at h;cases hg:gn n with
  | false=>rw[hg]at h; exact⟨_,h,ir _⟩
  | true=>
   rw[hg,afl]at h;split at h
   ·rename_i e sz xs hb;have h1:=(hsz n e sz _ hg hb).1 _ rfl;exact⟨_,h,ml ho hg (by simp[jS,hb,h1]) (by simp[mP,hb])⟩
   ·rename_i e sz q xs hb;have h1:=(hsz n e sz _ hg hb).2.1 _ _ rfl;exact⟨_,h,ml ho hg (by simp[jS,hb,h1]) (by simp[mP,hb])⟩
   ·rename_i e sz t xs hb;have h1:=(hsz n e sz _ hg hb).2.2.1 _ _ rfl;exact⟨_,h,ml ho hg (by simp[jS,hb,h1]) (by simp[mP,hb])⟩
   ·rename_i e sz tt a xs hb;have h1:=(hsz n e sz _ hg hb).2.2.2 _ _ _ rfl;exact⟨_,h,ml ho hg (by simp[jS,hb,h1]) (by simp[mP,hb])⟩
   ·cases h
   ·rename_i e sz cs hb;obtain⟨cs',h1,h2⟩:=hrc _ _ h;exact⟨_,h1,QR ho hg hb h2⟩
   ·cases h
 | .sl n o len,k,h=>by
  simp only[DE]at h;cases hg:gn n with
  | false=>rw[hg]at h; exact⟨_,h,ir _⟩
  | true=>
   rw[hg,afl]at h;split at h
   ·rename_i e sz xs hb;have h0:=(hsz n e sz _ hg hb).1 _ rfl;subst h0;obtain⟨h1,h2⟩:=and_true h;have h1:=afp h1;exact⟨_,h2,ml ho hg (by simp[jS,hb,cY,Fg h1]) (by simp[mP,hb,cY,Fg h1])⟩
   ·rename_i e sz q xs hb;have h0:=(hsz n e sz _ hg hb).2.1 _ _ rfl;subst h0;obtain⟨h1,h2⟩:=and_true h;have h1:=afp h1;exact⟨_,h2,ml ho hg (by simp[jS,hb,cY,Fi h1]) (by simp[mP,hb,cY,Fi h1])⟩
   ·rename_i e sz t xs hb;have h0:=(hsz n e sz _ hg hb).2.2.1 _ _ rfl;subst h0;obtain⟨h1,h2⟩:=and_true h;obtain⟨h3,h4⟩:=and_true h2;have hz:t.sz=1:=by simpa using h1
    have h3:=afp h3;have hsc:cY len t.sz=len:=by rw[aQ,hz,ag9]
    exact⟨_,h4,ml ho hg (by simp[jS,hb,hsc,Fj hz h3]) (by simp[mP,hb,hsc,Fj hz h3])⟩
   ·cases h
 | .ptr n o,k,h=>by
  simp only[DE]at h;cases hg:gn n with
  | false=>rw[hg]at h; exact⟨_,h,ir _⟩
  | true=>
   rw[hg,afl]at h;split at h
   ·rename_i e sz cs hb;obtain⟨cs',h1,h2⟩:=hrc _ _ h;exact⟨_,h1,QQ ho hg hb h2⟩
   ·exact⟨_,h,λ_ _ _ _ _ _ _ _ _ _=>.any _⟩
 | .opt n j o,k,h=>by
  simp only[DE]at h;cases hg:gn n with
  | false=>rw[hg]at h; exact⟨_,h,ir _⟩
  | true=>
   rw[hg,afl]at h;split at h
   ·rename_i e sz tt a xs hb;exact⟨_,h,ml ho hg (by simp[jS,hb]) (by simp[mP])⟩
   ·cases h
 | .agg cs,k,h=>by
  simp only[DE]at h;obtain⟨cs',h1,h2,h3⟩:=nN ho hsz hrc cs _ h;refine⟨_,h1,λG w ρ L' u hG hex hs hL hr=>?_⟩;obtain⟨us,rfl,hl,g1,g2⟩:=hr.agg_inv;refine .agg cs' us (by rw[<- h2]; exact hl) g1 λi c v hc hv=>?_
  obtain⟨c0,hc0,hf⟩:=h3 i c hc;exact hf G w ρ L' v hG hex hs hL (g2 i c0 v hc0 hv)
 | .tup cs,k,h=>by
  simp only[DE]at h;obtain⟨cs',h1,h2,h3⟩:=nN ho hsz hrc cs _ h;refine⟨_,h1,λG w ρ L' u hG hex hs hL hr=>?_⟩;cases hr with
  | tup _ us hl g2=>
   refine .tup cs' us (by rw[<- h2]; exact hl) λi c v hc hv=>?_
   obtain⟨c0,hc0,hf⟩:=h3 i c hc;exact hf G w ρ L' v hG hex hs hL (g2 i c0 v hc0 hv)
 | .fn g cs,k,h=>by
  simp only[DE]at h;obtain⟨cs',h1,h2,h3⟩:=nN ho hsz hrc cs _ h;refine⟨_,h1,λG w ρ L' u hG hex hs hL hr=>?_⟩;cases hr with
  | fn _ _ us _ hl g2 hfv=>
   refine .fn g cs' us _ (by rw[<- h2]; exact hl) (λi c v hc hv=>?_) hfv;obtain⟨c0,hc0,hf⟩:=h3 i c hc;exact hf G w ρ L' v hG hex hs hL (g2 i c0 v hc0 hv)
 | .any,k,h=>⟨_,h,ir _⟩
 | .nil,k,h=>⟨_,h,ir _⟩
 | .bool _,k,h=>⟨_,h,ir _⟩
 | .int _ _,k,h=>⟨_,h,ir _⟩
 | .flt _,k,h=>⟨_,h,ir _⟩
 | .val _,k,h=>⟨_,h,ir _⟩
 | .rof _,k,h=>⟨_,h,ir _⟩
 | .roi _ _,k,h=>⟨_,h,ir _⟩
 | .ro _ _,k,h=>⟨_,h,ir _⟩
 | .pf _ _,k,h=>⟨_,h,ir _⟩
 | .pi _ _ _,k,h=>⟨_,h,ir _⟩
 | .rp _ _,k,h=>⟨_,h,ir _⟩
 | .rl _ _,k,h=>⟨_,h,ir _⟩
theorem nN {base:Nat} {gn:Nat->Bool} {M:aL} {rc:Rc} (ho:Own base gn) (hsz:∀ n e sz c,gn n=true->aq M n=some ⟨e,sz,c⟩->(∀ xs,c=.flts xs->sz=1)/\(∀ q xs,c=.ints q xs->sz=1)/\(∀ t xs,c=.recs t xs->sz=t.sz) /\ ∀ t a xs,c=.own t a xs []->sz=1) (hrc:Vp base gn M rc):∀(vs:List V) (k:List V->Bool),HL gn M rc vs k=true -> ∃ vs',k vs'=true/\vs.length=vs'.length /\ ∀(i:Nat) v',vs'[i]? = some v' -> ∃ v,vs[i]? = some v/\Frz base gn M v v'
 | [],k,h=>⟨[],h,rfl,λi v' hv=>by simp at hv⟩
 | v::r,k,h=>by
  simp only[HL]at h;obtain⟨v',h1,h2⟩:=HK ho hsz hrc v _ h;obtain⟨r',h3,h4,h5⟩:=nN ho hsz hrc r _ h1;refine⟨v'::r',h3,by simp[h4],λi c hc=>?_⟩;cases i with
  | zero=>simp at hc; subst hc; exact⟨v,rfl,h2⟩
  | succ i=>obtain⟨c0,hc0,hf⟩:=h5 i c (by simpa using hc); exact⟨c0,by simpa using hc0,hf⟩
end
theorem KZ (md:Bool) (base:Nat) (M:aL):Own base (oI md base M):=by
 have h0:∀ n,KY base M n=true->base<=n:=by intro n h;unfold KY at h;split at h <;> simp at h <;> exact h.2
 intro n h;cases md with
 | false=>exact h0 n h
 | true=>
  have h:FF base M n=true:=h;unfold FF at h;rcases Bool.or_eq_true_iff.1 h with h | h
  ·exact h0 n h
  ·split at h
   ·exact afp h
   ·cases h
theorem Oz (md:Bool) (base:Nat) (M:aL):∀ n e sz c,oI md base M n=true->aq M n=some ⟨e,sz,c⟩->(∀ xs,c=.flts xs->sz=1)/\(∀ q xs,c=.ints q xs->sz=1)/\(∀ t xs,c=.recs t xs->sz=t.sz) /\ ∀ t a xs,c=.own t a xs []->sz=1:=by
 intro n e sz c h hb;have h0:KY base M n=true->(∀ xs,c=.flts xs->sz=1)/\(∀ q xs,c=.ints q xs->sz=1)/\(∀ t xs,c=.recs t xs->sz=t.sz) /\ ∀ t a xs,c=.own t a xs []->sz=1:=by
  intro h;unfold KY at h;rw[hb]at h;refine⟨?_,?_,?_,?_⟩
  ·rintro xs rfl; simp at h; exact h.1
  ·rintro q xs rfl; simp at h; exact h.1
  ·rintro t xs rfl; simp at h; exact h.1
  ·rintro t a xs rfl; simp at h; exact h.1
 cases md with
 | false=>exact h0 h
 | true=>
  have h:FF base M n=true:=h;unfold FF at h;rcases Bool.or_eq_true_iff.1 h with h | h
  ·exact h0 h
  ·rw[hb]at h;refine⟨?_,?_,?_,?_⟩
   ·rintro xs rfl; simp at h
   ·rintro q xs rfl; simp at h
   ·rintro t xs rfl; simp at h
   ·rintro t a xs rfl; simp at h
theorem DD (md:Bool) (base:Nat) (M:aL):∀ d,Vp base (oI md base M) M (Ox (oI md base M) M d)
 | 0=>λcs k h=>by simp[Ox]at h
 | d+1=>λcs k h=>nN (KZ md base M) (Oz md base M) (DD md base M d) cs k h
def Tf (base:Nat) (gn:Nat->Bool) (M:aL) (b b':Blk):Prop:=b'.c.holes=b.c.holes /\
 ∀(G:Gh) (w:World) (ρ:Rho) (L':LK) (q:Option Place),G.base=base->(∀ b,¬ G.ex b)->SimW G w ρ (aq M)->EO gn M L'->BlkAt (okc G ρ (aq M)) w ρ q b->BlkAt (okc G ρ L') w ρ q b'
theorem uQ (cs:List V) (i:Nat):(Body.cells cs).at i=cs[i]?:=rfl
theorem HI {P:Program} {md:Bool} {base:Nat} {M:aL} (b:Blk) (k:Blk->Bool) (h:VG P (oI md base M) M b k=true):∃ b',k b'=true/\Tf base (oI md base M) M b b':=by
 unfold VG at h;split at h
 ·rename_i cs hc;obtain⟨cs',h1,h2,h3⟩:=DD md base M 4 cs _ h;have hsize:(lJ P (kinds P 4 b.e) cs').length=b.c.size:=by rw[lW,hc,<- h2]; rfl
  refine⟨_,h1,by rw[hc]; rfl,λG w ρ L' q hG hex hs hL hq=>?_⟩;cases q with
  | none=>exact hsize.trans hq
  | some p=>
  ·obtain⟨cur,k1,k2,k3,k4,k5,hr,k7⟩:=hq;refine⟨cur,k1,k2,k3.trans hsize.symm,k4,k5,?_,by rw[hc]at k7; exact k7⟩;rw[hc]at hr;have hf:∀ i,∃ u:Value,i<cs'.length->(cur[i]? = some u/\u.oneCell'=true /\ ∀ z,cs'[i]? = some z->Rep (okc G ρ L') w ρ z u):=by
    intro i;by_cases hi:i<cs'.length
    ·obtain⟨c0,hc0,hfz⟩:=h3 i cs'[i] (List.getElem?_eq_getElem hi);obtain⟨u,u1,u2,u3⟩:=hr i c0 (by rw[uQ]; exact hc0);exact⟨u,λ_=>⟨u1,u2,λz hz=>by rw[List.getElem?_eq_getElem hi]at hz; cases hz; exact hfz G w ρ L' u hG hex hs hL u3⟩⟩
    ·exact⟨.bool false,λh=>absurd h hi⟩
   obtain⟨g,hg⟩:=Classical.skolem.1 hf;have hrl:RepL (okc G ρ L') w ρ cs' ((List.range cs'.length).map g):=by refine⟨by simp,λi x u hx hu=>?_⟩;have hi:i<cs'.length:=(List.getElem?_eq_some_iff.1 hx).1;rw[List.getElem?_map,List.getElem?_range hi]at hu;cases hu;exact(hg i hi).2.2 x hx
   have hn:=vV (P:=P) (kinds P 4 b.e) cs' _ hrl;intro i x hx;rw[uQ]at hx;have hi:i<cs'.length:=by
    have:=(List.getElem?_eq_some_iff.1 hx).1
    rwa [lW]at this
   refine⟨g i,(hg i hi).1,(hg i hi).2.1,hn.2 i x (g i) hx ?_⟩;rw[List.getElem?_map,List.getElem?_range hi]; rfl
 ·exact⟨b,h,rfl,λG w ρ L' q hG hex hs hL hr=>by subst hG; exact hr.of (AR hL) λ_ _ _ _=>rfl⟩
theorem qC {P:Program} {md:Bool} {base:Nat} {M:aL}:∀(l:aL) (n:Nat) (k:aL->Bool),HJ P (oI md base M) M n l k=true ->
  ∃ l',k l'=true/\l'.length=l.length /\ ∀(i:Nat) b',l'[i]? = some (some b') -> ∃ b,l[i]? = some (some b)/\oI md base M (n+i)=false/\Tf base (oI md base M) M b b'
 | [],n,k,h=>⟨[],h,rfl,λi b' hb=>by simp at hb⟩
 | none::r,n,k,h=>by
  simp only[HJ]at h;obtain⟨l',h1,h2,h3⟩:=qC r (n+1) _ h;refine⟨none::l',h1,by simp[h2],λi b' hb=>?_⟩;cases i with
  | zero=>simp at hb
  | succ i=>
   obtain⟨b,g1,g2,g3⟩:=h3 i b' (by simpa using hb);exact⟨b,by simpa using g1,by rw[show n+(i+1)=n+1+i by omega]; exact g2,g3⟩
 | some b::r,n,k,h=>by
  simp only[HJ]at h;cases hg:oI md base M n with
  | true=>
   rw[hg,afl]at h;obtain⟨l',h1,h2,h3⟩:=qC r (n+1) _ h;refine⟨none::l',h1,by simp[h2],λi b' hb=>?_⟩;cases i with
   | zero=>simp at hb
   | succ i=>
    obtain⟨b,g1,g2,g3⟩:=h3 i b' (by simpa using hb);exact⟨b,by simpa using g1,by rw[show n+(i+1)=n+1+i by omega]; exact g2,g3⟩
  | false=>
   rw[hg,afk]at h;obtain⟨b1,h0,hb1⟩:=HI b _ h;obtain⟨l',h1,h2,h3⟩:=qC r (n+1) _ h0;refine⟨some b1::l',h1,by simp[h2],λi b' hb=>?_⟩;cases i with
   | zero=>simp at hb; subst hb; exact⟨b,rfl,hg,hb1⟩
   | succ i=>
    obtain⟨b,g1,g2,g3⟩:=h3 i b' (by simpa using hb);exact⟨b,by simpa using g1,by rw[show n+(i+1)=n+1+i by omega]; exact g2,g3⟩
theorem HM {P:Program} {md:Bool} {base:Nat} {s:St} {k:St->Bool} (h:VH P md base s k=true) :
  ∃ s',k s'=true/\s'.M.length=s.M.length /\ ∀(G:Gh) (w:World) (ρ:Rho) (a:Act),G.base=base->Sim G w ρ s a->Sim G w ρ s' a:=by
 unfold VH at h;obtain⟨F,h1,h2,h3⟩:=DD md base s.M 4 s.F _ h;obtain⟨M,h4,h5,h6⟩:=qC s.M 0 _ h1;refine⟨⟨F,M⟩,h4,h5,λG w ρ a hG hs=>?_⟩;have hL:EO (oI md base s.M) s.M (aq M):=by intro m b' hb';obtain⟨b,g1,g2,g3⟩:=h6 m b' (dG.1 hb');exact⟨b,dG.2 g1,g3.1,by simpa using g2⟩
 have hlive:∀ m b',aq M m=some b' -> ∃ b,aq s.M m=some b/\Tf base (oI md base s.M) s.M b b':=by intro m b' hb';obtain⟨b,g1,-,g3⟩:=h6 m b' (dG.1 hb');exact⟨b,dG.2 g1,g3⟩
 refine⟨⟨λn b' hb'=>?_,λn m bn bm p q hn hm hp hq=>?_,hs.sim.own,hs.sim.size,hs.sim.os,hs.sim.tape,hs.sim.output,hs.sim.old,hs.sim.tab,hs.sim.high⟩,hs.noex,λn hn=>hs.dom n (by rw[<- h5]; exact hn),hs.defers,λt=>?_,?_,by rw[h5]; exact hs.base⟩
 ·obtain⟨b,hb,e1,hfz⟩:=hlive n b' hb';obtain⟨q,hq,hat⟩:=hs.sim.blks n b hb;exact⟨q,hq,hfz G w ρ _ q hG hs.noex hs.sim hL hat⟩
 ·obtain⟨b1,hb1,e1,-⟩:=hlive n bn hn;obtain⟨b2,hb2,e2,-⟩:=hlive m bm hm;exact λx hx1 hx2=>hs.sim.inj n m b1 b2 p q hb1 hb2 hp hq x (iu e1 hx1) (iu e2 hx2)
 ·show Rep _ w ρ (F.getD t .any) _;by_cases ht:t<F.length
  ·obtain⟨v,hv,hf⟩:=h3 t F[t] (List.getElem?_eq_getElem ht);have:=hs.fr t;rw[List.getD_eq_getElem?_getD,hv]at this;rw[List.getD_eq_getElem?_getD,List.getElem?_eq_getElem ht];exact hf G w ρ _ _ hG hs.noex hs.sim hL this
  ·rw[List.getD_eq_getElem?_getD,List.getElem?_eq_none (by omega)];exact .any _
 ·rw[hs.size,h2]
def zR:List ResultVar->List Nat
 | []=>[]
 | .tmp t::r=>t::zR r
 | .cell t _::r=>t::zR r
def Iv (P:Program) (fn:Func) (r:V):V:=match r with
 | .tup vs=>.tup (iX P fn.resultTypes.toList vs)
 | v=>D0 P (fn.resultTypes.toList.headD 0) v
theorem D2 {P:Program} {fn:Func} {ok:Nat->Prop} {w:World} {ρ:Rho} {x:V} {v:Value} (h:Rep ok w ρ x v):Rep ok w ρ (Iv P fn x) v:=by
 unfold Iv;split
 ·cases h with
  | tup _ us hl h2=>
   have:=sN (P:=P) fn.resultTypes.toList _ us ⟨hl,h2⟩;exact .tup _ us this.1 this.2
 ·exact w9 _ h
def Oc (P:Program) (md:Bool) (base:Nat) (fn:Func) (s:St) (k:V->List Blk->Bool):Bool:=
 VH P md base (sS P base (some ⟨zR fn.results.toList,[],[],[]⟩) s) λs'=>Fw P base fn.results.toList s' λr H=>k (Iv P fn r) H
theorem Au {P:Program} {md:Bool} {base:Nat} {fn:Func} {s:St} {k:V->List Blk->Bool} (hb:base<=s.M.length) (h:Oc P md base fn s k=true) :
  ∃ r H',k r H'=true /\ ∀(G:Gh) (w:World) (ρ:Rho) (a:Act),G.base=base->Sim G w ρ s a -> ∃ v ρ',(results fn a.tmps).run P w=.ok v w/\(∀ n q,n<base->ρ n=some q->ρ' n=some q)/\(∀ n,H'.length<=n->ρ' n=none) /\
   SimW G w ρ' (eB H')/\Rep (okc G ρ' (eB H')) w ρ' r v:=by
 unfold Oc at h;obtain⟨n1,n2⟩:=mz (P:=P) (some ⟨zR fn.results.toList,[],[],[]⟩) s base hb;obtain⟨s',h1,h2,h3⟩:=HM h;obtain⟨r,H',h4,h5⟩:=vF (by rw[h2]; exact n1) h1;refine⟨_,H',h4,λG w ρ a hG hs=>?_⟩;obtain⟨ρ1,hs1,e1⟩:=n2 G w ρ a hG hs;obtain⟨v,ρ',g1,g2,g3,g4,g5⟩:=h5 G w ρ1 a hG (h3 G w ρ1 a hG hs1);exact⟨v,ρ',g1,λn q hn hq=>g2 n q hn (e1 n q hn hq),g3,g4,D2 g5⟩
def Jg (md:Bool) (cx:Cx) (an:Nat->Option Ann) (f:Nat) (args:List V) (H:List Blk) (k:V->List Blk->Bool):Bool:=
 match cx.P.funcs[f]? with
 | some fn=>match fn.body with
  | some c=>
   let fin:=λs=>Oc cx.P md H.length fn s k
   !(fn.name == "runtime.NumGoroutine")&&cS cx H.length an c 0 ⟨args++List.replicate (fn.ntmps - args.length) .any,H.map some⟩ ⟨fin,λ_ _=>false,fin⟩
  | none=>false
 | none=>false
theorem yG {md:Bool} {cx:Cx} (hO:OS cx) {an:Nat->Option Ann} {f:Nat} {args:List V} {H:List Blk} {k:V->List Blk->Bool} (hk:∀ fn c,cx.P.funcs[f]? = some fn->fn.body=some c->gP cx H.length an c 0) (h:Jg md cx an f args H k=true) :
  ∃ r H',(Ok cx.P f args H r H'/\OkC cx.P f args H r H')/\k r H'=true:=by
 unfold Jg at h;split at h
 ·rename_i fn hfn;split at h
  ·rename_i c hc;simp only at h;obtain⟨hname,h'⟩:=and_true h;have hname':¬ fn.name = "runtime.NumGoroutine":=by simpa using hname
   have hb0:H.length<=(H.map some).length:=by simp
   obtain⟨e,s',h1,h2,h3⟩:=cD hO c 0 _ _ (hk fn c hfn hc) hb0 h';have hend:Oc cx.P md H.length fn s' k=true/\(e=.normal\/e=.ret):=by
    cases e <;> simp[K.of]at h1
    ·exact⟨h1,.inl rfl⟩
    ·exact⟨h1,.inr rfl⟩
   obtain⟨r,H',hk,hfin⟩:=Au h2 hend.1;refine⟨r,H',?_,hk⟩;have hok:OkC cx.P f args H r H':=by
    intro w ρ ok vs hsim hdom hargs;refine calls_of_wp hfn hc ?_;have hS:Sim (gh w H.length ok) w ρ ⟨args++List.replicate (fn.ntmps - args.length) .any,H.map some⟩ { tmps:=vs.toArray++Array.replicate (fn.ntmps - vs.toArray.size) undef,defers:=[] }:=by
     refine⟨hsim,λ_ h=>h,λn hn=>hdom n (by simpa using hn),⟨rfl,λ_ h=>by cases h⟩,λt=>?_,by simp[hargs.1],by simp[gh]⟩;show Rep _ w ρ ((args++List.replicate (fn.ntmps - args.length) V.any).getD t .any) _;by_cases ht:t<args.length
     ·have htv:t<vs.length:=by rw[<- hargs.1]; exact ht
      have e1:(args++List.replicate (fn.ntmps - args.length) V.any).getD t .any=args[t]:=by rw[List.getD,List.getElem?_append_left ht]; simp[ht]
      have e2:(vs.toArray++Array.replicate (fn.ntmps - vs.toArray.size) undef).getD t undef=vs[t]:=by rw[Array.getD_eq_getD_getElem?,Array.getElem?_append_left (by simpa using htv)]; simp[htv]
      rw[e1,e2];exact hargs.2 t _ _ (by simp[ht]) (by simp[htv])
     ·have e1:(args++List.replicate (fn.ntmps - args.length) V.any).getD t .any=.any:=by rw[List.getD,List.getElem?_append_right (by omega),List.getElem?_replicate];split <;> rfl
      rw[e1]; exact .any _
    refine h3 (gh w H.length ok) w ρ _ ⟨rfl,.none rfl⟩ hS _ λw' ρ' a' hs' hr=>?_
    obtain⟨v,ρ'',g1,g2,g3,g4,g5⟩:=hfin (gh w H.length ok) w' ρ' a' rfl hs';have hpost:a'.defers=[] /\ ∃ v,(results fn a'.tmps).run cx.P w'=.ok v w' /\ ∃ v',Ending.returned v=.returned v' /\ ∃ ρ',(∀ n,n<H.length->ρ' n=ρ n)/\(∀ n,H'.length<=n->ρ' n=none)/\SimW (gh w H.length ok) w' ρ' (eB H')/\Rep (okc (gh w H.length ok) ρ' (eB H')) w' ρ' r v':=by refine⟨hs'.defers.1,v,g1,v,rfl,ρ'',λn hn=>?_,g3,g4,g5⟩;obtain⟨q,hq,_⟩:=hsim.blks n H[n] (nX.2 (by simp[hn]));rw[hq,g2 n q hn (hr n q hn hq)]
    rcases hend.2 with rfl | rfl
    ·exact hpost
    ·exact hpost
   refine⟨?_,hok⟩;intro w ρ ok vs hsim hdom hargs o a N Q hN;have hrun:(callFunc f vs.toArray).run cx.P w=.ok (.enter f vs.toArray) w:=by simp[callFunc,hfn,hname',hc]
   rw[hrun,Oper.upon_enter];have hcalls:=hok w ρ ok vs hsim hdom hargs;refine hcalls.mono λe' w' he=>?_
   obtain⟨v,rfl,hv⟩:=he;exact hN v w' hv
  ·cases h
 ·cases h
def uJ (P:Program) (g:FuncId):Prop:=
 (∃ fn,P.funcs[g]? = some fn/\fn.body.isSome=true/\(fn.name == "runtime.NumGoroutine")=false) /\
 ∀(w:World) (b:Nat) (n:Int) (cur:Array Value) (e:TypeId),w.heap[b]? = some (.cells cur e (0,0))->cur[0]? = some (.int .i64 n)->CallsD P g #[.pointer (some ⟨b,0,none⟩)] .returning w λe u w'=>(∃ v,e=.returned v)/\u=.returning/\w'=w.drew
def Xe (P:Program) (md:Option Bool) (base:Nat) (fn:Func) (s:St) (k:V->List Blk->Bool):Bool:=match md with
 | none=>Fw P base fn.results.toList s k
 | some m=>Oc P m base fn s k
theorem HF {P:Program} {md:Option Bool} {base:Nat} {fn:Func} {s:St} {k:V->List Blk->Bool} (hb:base<=s.M.length) (h:Xe P md base fn s k=true) :
  ∃ r H',k r H'=true /\ ∀(G:Gh) (w:World) (ρ:Rho) (a:Act),G.base=base->Sim G w ρ s a -> ∃ v ρ',(results fn a.tmps).run P w=.ok v w/\(∀ n q,n<base->ρ n=some q->ρ' n=some q)/\(∀ n,H'.length<=n->ρ' n=none) /\
   SimW G w ρ' (eB H')/\Rep (okc G ρ' (eB H')) w ρ' r v:=by
 cases md with
 | none=>exact vF hb h
 | some m=>exact Au hb h
def N6 (cx:Cx) (t:Nat) (s:St):Bool:=match s.F.getD t .any with
 | .fn g [.ptr n 0]=>(Nat.ble g 999999&&cx.ref (2000000+g))&&(match aq s.M n with
  | some ⟨_,1,.cells [.int .i64 _]⟩=>true
  | _=>false)
 | _=>false
def HA (cx:Cx) (md:Option Bool) (base t:Nat) (fn:Func) (k:V->List Blk->Bool) (s:St):Bool:=N6 cx t s&&Xe cx.P md base fn s k
def Jx (t:Nat) (o:Oper):Bool:=match o.op with
 | .defer c=>(match c.callee with
  | .value (.tmp t')=>t==t'
  | _=>false)&&(c.args.size==0&&(o.dst.isNone&&o.guard.isNone))
 | _=>false
def SL:V->Bool
 | .fn g _=>Nat.ble g 999999
 | _=>false
def Cs (md:Option Bool) (cx:Cx) (an:Nat->Option Ann) (f:Nat) (args:List V) (H:List Blk) (k:V->List Blk->Bool):Bool:=
 match cx.P.funcs[f]? with
 | some fn=>match fn.body with
  | some (.seq r0 (.seq (.region _ ops false) c))=>match ops.toList with
   | [mk,df]=>match mk.dst with
    | some t=>((mk.guard.isNone&&Jx t df)&&(lQ t c && !(fn.name == "runtime.NumGoroutine"))) &&
      cS cx H.length an r0 0 ⟨args++List.replicate (fn.ntmps - args.length) .any,H.map some⟩ ⟨λs=>opV cx H.length s.F s.M mk.op λv U _=>(SL v&&decide (t<s.F.length)) &&
       cS cx H.length an c 0 ⟨kS s.F mk.dst v,nj s.M U⟩ ⟨HA cx md H.length t fn k,λ_ _=>false,HA cx md H.length t fn k⟩,λ_ _=>false,λ_=>false⟩
    | none=>false
   | _=>false
  | _=>false
 | none=>false
theorem SimW.ghost {G G':Gh} {w:World} {ρ:Rho} {L:LK} (h:SimW G w ρ L) (e1:G'.B=G.B) (e2:G'.base=G.base) (e3:G'.w0=G.w0) (e4:G'.ok0=G.ok0) (e5:G'.ex=G.ex):SimW G' w ρ L:=by obtain⟨B,base,w0,ok0,ex,ds,dt,dv⟩:=G;obtain⟨B',base',w0',ok0',ex',ds',dt',dv'⟩:=G';cases e1; cases e2; cases e3; cases e4; cases e5;exact⟨h.blks,h.inj,h.own,h.size,h.os,h.tape,h.output,h.old,h.tab,h.high⟩
theorem Sim.drew {G:Gh} {w:World} {ρ:Rho} {s:St} {a:Act} (h:Sim G w ρ s a):Sim G w.drew ρ s a:=by obtain⟨h1,h2⟩:=h.sim.drew;exact⟨h1,h.noex,h.dom,h.defers,λt=>(h.fr t).mono h2,h.size,h.base⟩
theorem Fm {cx:Cx} (hD:∀ g,g<1000000->cx.ref (2000000+g)=true->uJ cx.P g) {t:Nat} {s:St} (h:N6 cx t s=true) {G:Gh} {w:World} {ρ:Rho} {a:Act} (hs:Sim G w ρ s a) :
  ∃ g b n cur e,uJ cx.P g/\a.tmps.getD t undef=.func (.func g) #[] #[.pointer (some ⟨b,0,none⟩)]/\w.heap[b]? = some (.cells cur e (0,0))/\cur[0]? = some (.int .i64 n):=by
 unfold N6 at h;split at h
 ·rename_i g n hF;obtain⟨h01,h2⟩:=and_true h;obtain⟨h0,h1⟩:=and_true h01;have hlt:g<1000000:=ahU (ahh h0);split at h2
  ·rename_i e x hL;have hr:=hs.fr t;rw[hF]at hr;generalize a.tmps.getD t undef=u at hr ⊢;cases hr with
   | fn _ _ vs _ hl hc hfv=>
    obtain rfl:u=.func (.func g) #[] vs.toArray:=by
     rcases hfv with⟨_,h⟩ | ⟨h,_⟩
     ·exact h
     ·omega
    match vs,hl with
    | [v],_=>
     have hv:=hc 0 _ v rfl rfl;obtain⟨p,hp,rfl⟩:=hv.ptr_inv;obtain⟨q,hq,hb⟩:=hs.sim.blks n _ hL;rw[hp]at hq; cases hq;obtain⟨cur,c1,c2,c3,c4,c5,c6,c7⟩:=hb;obtain⟨v,g1,g2,g3⟩:=c6 0 (.int .i64 x) rfl;have:=g3.int_inv;subst this;exact⟨g,p.b,x,cur,_,hD g hlt h1,rfl,c1,g1⟩
  ·cases h2
 ·cases h
theorem oA {md:Option Bool} {cx:Cx} (hO:OS cx) (hD:∀ g,g<1000000->cx.ref (2000000+g)=true->uJ cx.P g) {an:Nat->Option Ann} {f:Nat} {args:List V} {H:List Blk} {k:V->List Blk->Bool} (hk:∀ fn c,cx.P.funcs[f]? = some fn->fn.body=some c->gP cx H.length an c 0) (h:Cs md cx an f args H k=true) :
  ∃ r H',Ok cx.P f args H r H'/\k r H'=true:=by
 unfold Cs at h;split at h
 ·rename_i fn hfn;split at h
  ·rename_i r0 id ops c hc;split at h
   ·rename_i mk df hops;split at h
    ·rename_i t hdst;obtain⟨h0,h'⟩:=and_true h;obtain⟨h01,h02⟩:=and_true h0;obtain⟨hmg,hdf⟩:=and_true h01;obtain⟨hsp,hname⟩:=and_true h02;have hname':¬ fn.name = "runtime.NumGoroutine":=by simpa using hname
     have hmg':mk.guard=none:=by simpa using hmg
     have hb0:H.length<=(H.map some).length:=by simp
     have hks:=hk fn _ hfn hc;obtain⟨e1,s1,g1,g2,g3⟩:=cD hO r0 0 _ _ hks.1 hb0 h';cases e1 with
     | normal=>
      simp only[K.of]at g1;obtain⟨x,U,T,hgood,q1⟩:=ux hO g2 g1;obtain⟨q0,q1⟩:=and_true q1;obtain⟨q01,q02⟩:=and_true q0;have hlt:t<s1.F.length:=by simpa using q02
      obtain⟨u1,u2,u3⟩:=lF U s1.M;obtain⟨e2,s2,k1,k2,k3⟩:=cD hO c 0 _ _ hks.2.2 (afG g2 u2) q1;have hend:HA cx md H.length t fn k s2=true/\(e2=.normal\/e2=.ret):=by
       cases e2 <;> simp[K.of]at k1
       ·exact⟨k1,.inl rfl⟩
       ·exact⟨k1,.inr rfl⟩
      obtain⟨hat,hend1⟩:=and_true hend.1;obtain⟨r,H',hk',hfin⟩:=HF k2 hend1;refine⟨r,H',?_,hk'⟩;have hok:OkC cx.P f args H r H':=by
       intro w ρ ok vs hsim hdom hargs;refine calls_of_wp_defers hfn hc ?_;have hS:Sim (gh w H.length ok) w ρ ⟨args++List.replicate (fn.ntmps - args.length) .any,H.map some⟩ { tmps:=vs.toArray++Array.replicate (fn.ntmps - vs.toArray.size) undef,defers:=[] }:=by
        refine⟨hsim,λ_ h=>h,λn hn=>hdom n (by simpa using hn),⟨rfl,λ_ h=>by cases h⟩,λt=>?_,by simp[hargs.1],by simp[gh]⟩;show Rep _ w ρ ((args++List.replicate (fn.ntmps - args.length) V.any).getD t .any) _;by_cases ht:t<args.length
        ·have htv:t<vs.length:=by rw[<- hargs.1]; exact ht
         have e1:(args++List.replicate (fn.ntmps - args.length) V.any).getD t .any=args[t]:=by rw[List.getD,List.getElem?_append_left ht]; simp[ht]
         have e2:(vs.toArray++Array.replicate (fn.ntmps - vs.toArray.size) undef).getD t undef=vs[t]:=by rw[Array.getD_eq_getD_getElem?,Array.getElem?_append_left (by simpa using htv)]; simp[htv]
         rw[e1,e2];exact hargs.2 t _ _ (by simp[ht]) (by simp[htv])
        ·have e1:(args++List.replicate (fn.ntmps - args.length) V.any).getD t .any=.any:=by rw[List.getD,List.getElem?_append_right (by omega),List.getElem?_replicate];split <;> rfl
         rw[e1]; exact .any _
       refine wp_seq (g3 (gh w H.length ok) w ρ _ ⟨rfl,.none rfl⟩ hS _ λw1 ρ1 a1 hs1 hr1=>?_);show(Code.seq (.region id ops false) c).wp cx.P _ a1 w1;refine wp_seq (wp_region_list ?_);rw[hops];unfold wpList;rw[if_pos (by simp[Region.wanted,hmg'])];refine .inl (hgood (gh w H.length ok) w1 ρ1 (aq s1.M) a1 mk rfl rfl hs1.noex hs1.sim (λy _=>IE hs1.fr y) (λ_ _=>rfl) (λn b _ hn=>⟨hs1.dom n hn,afG g2 hn⟩) _ _ λv w2 ρ2 p1 p2 p3 p4=>?_);have hs2:=hs1.put (d:=mk.dst) p1 p2 p3 p4 (λt ht=>by cases ht);obtain⟨g,vs',rfl⟩:∃ g vs',v=.func (.func g) #[] vs':=by
        obtain⟨gx,cpx,rfl⟩:∃ g caps,x=.fn g caps:=by
         cases x <;> first
          | exact⟨_,_,rfl⟩
          | (simp[SL]at q01)
        cases p2 with
        | fn _ _ us _ _ _ hfv=>
         rcases hfv with⟨_,h⟩ | ⟨h,_⟩
         ·exact⟨gx,us.toArray,h⟩
         ·exfalso;have q:=ahh q01;omega
       have htv:(a1.put mk.dst (.func (.func g) #[] vs')).tmps.getD t undef=.func (.func g) #[] vs':=by rw[pX,if_pos ⟨hdst,by rw[hs1.size]; exact hlt⟩]
       generalize ha2:a1.put mk.dst (.func (.func g) #[] vs')=a2 at hs2 htv ⊢;unfold wpList;unfold Jx at hdf;split at hdf
       ·rename_i cc hop;obtain⟨d1,d2⟩:=and_true hdf;obtain⟨d3,d4⟩:=and_true d2;obtain⟨d5,d6⟩:=and_true d4;have d5':df.dst=none:=by simpa using d5
        have d6':df.guard=none:=by simpa using d6
        have d3':cc.args = #[]:=Array.eq_empty_of_size_eq_zero (by simpa using d3);split at d1
        ·rename_i t' hcal;obtain rfl:t=t':=by simpa using d1
         rw[if_pos (by simp[Region.wanted,d6'])];refine .inl ?_
         let d:Deferred:={ target:=.fn (.func g) vs',args:=#[] }
         have hrun:(execOp a2.eval df).run cx.P w2=.ok (.defer d) w2:=by have hev:a2.eval (.tmp t)=.func (.func g) #[] vs':=htv;unfold execOp;simp[hop,resolve,hcal,hev,Deferred.ofValue,d3',d]
         unfold Oper.wp;rw[hrun,Oper.upon_defer];have hd0:a2.defers=[]:=hs2.defers.1
         let G1:Gh:={ gh w H.length ok with ds:=[d],dt:=some t,dv:=.func (.func g) #[] vs' }
         have hs3:Sim G1 w2 ρ2 ⟨kS s1.F mk.dst x,nj s1.M U⟩ ({ a2 with defers:=d::a2.defers }.put df.dst undef):=by
          rw[d5'];refine⟨hs2.sim.ghost rfl rfl rfl rfl rfl,hs2.noex,hs2.dom,⟨?_,λt' ht'=>?_⟩,hs2.fr,hs2.size,hs2.base⟩
          ·show d::a2.defers=[d];rw[hd0]
          ·cases ht';exact htv
         unfold wpList;show Exit.then _ _ .normal _ _;refine k3 G1 w2 ρ2 _ ⟨rfl,λt' ht'=>by cases ht'; exact hsp⟩ hs3 _ λw3 ρ3 a3 hs4 hr4=>?_
         obtain⟨g',b,n,cur,eb,hdef,hv,hcell,hcur⟩:=Fm hD hat hs4;have hv2:=hs4.defers.2 t rfl;rw[hv]at hv2;have hvs:(.func g',#[.pointer (some ⟨b,0,none⟩)])=((.func g,vs'):Fn × Array Value):=by have hv2:Value.func (.func g') #[] #[.pointer (some ⟨b,0,none⟩)]=.func (.func g) #[] vs':=hv2;simp only[Value.func.injEq,Fn.func.injEq]at hv2;rw[hv2.1,hv2.2.2]
         simp only[Prod.mk.injEq,Fn.func.injEq]at hvs;obtain⟨rfl,rfl⟩:=hvs;have hds:a3.defers=[d]:=hs4.defers.1;obtain⟨v',ρ'',z1,z2,z3,z4,z5⟩:=hfin G1 w3.drew ρ3 a3 rfl hs4.drew;have hpost:Leaves cx.P fn a3.tmps (λe' w'=>∃ v,e'=.returned v /\ ∃ ρ',(∀ n,n<H.length->ρ' n=ρ n)/\(∀ n,H'.length<=n->ρ' n=none)/\SimW (gh w H.length ok) w' ρ' (eB H')/\Rep (okc (gh w H.length ok) ρ' (eB H')) w' ρ' r v) a3.defers .returning w3:=by
          rw[hds];obtain⟨⟨fg,hfg,hbg,hng⟩,hcall⟩:=hdef;have hng':¬ fg.name = "runtime.NumGoroutine":=by simpa using hng
          refine⟨by simp,.func g',#[.pointer (some ⟨b,0,none⟩)],g',#[.pointer (some ⟨b,0,none⟩)],rfl,?_,?_⟩
          ·obtain⟨cg,hcg⟩:=Option.isSome_iff_exists.1 hbg;simp[d,invoke,callFunc,hfg,hng',hcg]
          ·intro c0 cs hu;obtain⟨e,u',w',fr,⟨⟨vr,rfl⟩,rfl,rfl⟩,hrest⟩:=hcall w3 b n cur eb hcell hcur c0 cs hu;refine⟨_,_,_,fr,?_,hrest⟩;refine⟨v',z1,v',rfl,ρ'',λn hn=>?_,z3,z4.ghost rfl rfl rfl rfl rfl,z5⟩;obtain⟨q,hq,_⟩:=hsim.blks n H[n] (nX.2 (by simp[hn]));rw[hq];exact z2 n q hn (hr4 n q hn ((p3.rho n q (hr1 n q hn hq))))
         rcases hend.2 with rfl | rfl
         ·exact hpost
         ·exact hpost
        ·cases d1
       ·cases hdf
      intro w ρ ok vs hsim hdom hargs o a N Q hN;have hrun:(callFunc f vs.toArray).run cx.P w=.ok (.enter f vs.toArray) w:=by simp[callFunc,hfn,hname',hc]
      rw[hrun,Oper.upon_enter];have hcalls:=hok w ρ ok vs hsim hdom hargs;refine hcalls.mono λe' w' he=>?_
      obtain⟨v,rfl,hv⟩:=he;exact hN v w' hv
     | exit i=>simp[K.of]at g1
     | ret=>simp[K.of]at g1
     | goto l=>simp[K.of]at g1
     | panic p=>simp[K.of]at g1
     | outgrown=>simp[K.of]at g1
    ·cases h
   ·cases h
  ·cases h
 ·cases h
def yl (m:Region.Mode) (ops:Array Oper):Nat->Array Bool->List Nat->List (List Nat)
 | 0,_,acc=>[acc.reverse]
 | fuel+1,listed,acc=>
  let rs:=(List.range ops.size).filter λi=>
   !listed.getD i true&&((ops[i]?).map (·.after.all λe=>!Region.binds m e||listed.getD e.on false)).getD false
  match rs with
  | []=>[acc.reverse]
  | _=>(rs.map λi=>yl m ops fuel (listed.setIfInBounds i true) (i::acc)).flatten
theorem Oy (m:Region.Mode) (ops:Array Oper):∀(fuel t:Nat) (listed:Array Bool) (acc:List Nat),Region.linearise.go m ops fuel t listed acc ∈ yl m ops fuel listed acc
 | 0,t,listed,acc=>by simp[Region.linearise.go,yl]
 | fuel+1,t,listed,acc=>by
  simp only[Region.linearise.go,yl];generalize (List.range ops.size).filter (λi=>!listed.getD i true&&((ops[i]?).map (·.after.all λe=>!Region.binds m e||listed.getD e.on false)).getD false)=rs;cases rs with
  | nil=>simp
  | cons x r=>
   have hl:t%(x::r).length<(x::r).length:=afA _ (by simp);rw[List.getElem?_eq_getElem hl];simp only;exact List.mem_flatten.2 ⟨_,List.mem_map.2 ⟨_,agv hl,rfl⟩,Oy m ops fuel _ _ _⟩
section
variable {P:Program} {Q:Exit->Act->List Frame->World->Prop} {a:Act} {cs:List Frame} {w:World} {ops:Array Oper}
theorem zJ {id:Nat} (hm:P.follows .mixedOrders=true) (h:∀ l,l ∈ yl .any ops ops.size (Array.replicate ops.size false) []->wpOpsS P ops Q l a cs w.drew):(Code.region id ops true).wpS P Q a cs w:=by intro b k hb hr;have hmem:=Oy .any ops ops.size (w.tape w.drawn (.order b.fn id)) (Array.replicate ops.size false) [];obtain⟨e,a',cs',w',q,r⟩:=wp_opsS _ a cs w.drew (h _ hmem) b k hb hr;refine⟨e,a',cs',w',q,.of_steps (.one ?_) r⟩;rw[step_region_draw];simp only[Region.schedule,hm,Bool.true_or,agU];rfl
theorem uG {i:Nat} {rest:List Nat} {o:Oper} (ho:ops[i]? = some o) (hg:o.guard=none)
  (h:o.wp P a w (λa' w'=>wpOpsS P ops Q rest a' cs w') (λe a' w'=>Q e a' cs w')):wpOpsS P ops Q (i::rest) a cs w:=by
 simp only[wpOpsS,ho];rw[if_pos (by simp[Region.wanted,hg])];unfold Oper.wp at h;split
 ·rename_i w' hr;rw[hr]at h;exact h.elim
 ·exact h
theorem tM {i:Nat} {rest:List Nat} {o:Oper} (ho:ops[i]? = some o) (hg:o.guard=none) (hop:o.op=.call ⟨.builtin .recover,#[],#[]⟩) (hc:recoverD cs=none)
  (h:wpOpsS P ops Q rest (a.put o.dst .nilIface) cs w):wpOpsS P ops Q (i::rest) a cs w:=by
 simp only[wpOpsS,ho];rw[if_pos (by simp[Region.wanted,hg])];have hr:(execOp a.eval o).run P w=.ok .recover w:=by simp[execOp,hop,go_sem]
 rw[hr];simp only[hc];exact h
end
theorem nq (a:Act) (t:Nat) (v:Value) (h:t<a.tmps.size):(a.put (some t) v).tmps.getD t undef=v:=by rw[pX,if_pos ⟨rfl,h⟩]
theorem kK (a:Act) (d:Option Nat) (v:Value) (t:Nat) (h:d ≠ some t):(a.put d v).tmps.getD t undef=a.tmps.getD t undef:=by rw[pX,if_neg (λe=>h e.1)]
theorem QJ {P:Program} {fc:FuncId} {fn:Func} {p0 p1 p2 p3 p4 p5:Oper} {i0 i1 i2 i3 i4:Nat} {t20 tb:TypeId} {x y:Code} {z:Value}
  (hf:P.funcs[fc]? = some fn) (hn:fn.ntmps=15) (hr:fn.results = #[.tmp 4])
  (hb:fn.body=some (.seq (.region i0 #[p0] false) (.seq (.seq (.region i1 #[p1] false) (.block 0 (.seq (.region i2 #[p2] false) (.cond (.tmp 8) (.seq (.region i3 #[p3] false) (.seq (.region i4 #[p4,p5] false) .ret)) x)))) y)))
  (g0:p0.guard=none) (g1:p1.guard=none) (g2:p2.guard=none) (g3:p3.guard=none) (g4:p4.guard=none) (g5:p5.guard=none)
  (d0:p0.dst=some 4) (d1:p1.dst=some 7) (d2:p2.dst=some 8) (d3:p3.dst=some 5) (d4:p4.dst=some 9) (d5:p5.dst=some 4)
  (e0:p0.op=.assign (.const z)) (e1:p1.op=.move (.tmp 0)) (e2:p2.op=.binOp .eql t20 (.tmp 7) (.const .nilIface) tb) (e3:p3.op=.assign (.tmp 7)) (e4:p4.op=.move (.tmp 1)) (e5:p5.op=.assign (.tmp 9))
  (hgd:∀ w,(eqGuard .eql t20 (.tmp 7) (.const .nilIface) .nilIface .nilIface).run P w=.ok () w) (hnil:∀ w,(binOp .eql t20 .nilIface .nilIface).run P w=.ok (.bool true) w) (w:World) (v:Value):Calls P fc #[.nilIface,v] w λe w'=>e=.returned v/\w'=w:=by
 have one:∀{o:Oper} {a:Act} {w:World} {u:Value} {ops:Array Oper} {rest:List Oper} {Q:Exit->Act->World->Prop},o.guard=none->(execOp a.eval o).run P w=.ok (.value u) w->wpList P ops Q rest (a.put o.dst u) w->wpList P ops Q (o::rest) a w:=by intro o a w u ops rest Q hg hr h;unfold wpList;rw[if_pos (by simp[Region.wanted,hg])];exact .inl (dY hr h)
 refine calls_of_wp hf hb ?_;rw[hn];generalize ha:(Act.mk (#[Value.nilIface,v]++Array.replicate (15 - #[Value.nilIface,v].size) undef) [])=a;have hsz:a.tmps.size=15:=by rw[<- ha]; rfl
 have h0:a.tmps.getD 0 undef=.nilIface:=by rw[<- ha]; rfl
 have h1:a.tmps.getD 1 undef=v:=by rw[<- ha]; rfl
 have hd:a.defers=[]:=by rw[<- ha]
 clear ha;refine wp_seq (wp_region_list (one g0 (u:=z) (by simp[execOp,e0,Act.eval]) ?_));generalize ha0:a.put p0.dst z=a0;have s0:a0.tmps.size=15:=by rw[<- ha0,fM,hsz]
 have q0:a0.tmps.getD 0 undef=.nilIface:=by rw[<- ha0,kK _ _ _ _ (by rw[d0]; decide),h0]
 have q1:a0.tmps.getD 1 undef=v:=by rw[<- ha0,kK _ _ _ _ (by rw[d0]; decide),h1]
 have qd:a0.defers=[]:=by rw[<- ha0,da,hd]
 clear ha0;refine wp_seq (wp_seq (wp_region_list (one g1 (u:=.nilIface) (by simp[execOp,e1,Act.eval,q0]) ?_)));generalize ha1:a0.put p1.dst .nilIface=a1;have s1:a1.tmps.size=15:=by rw[<- ha1,fM,s0]
 have r1:a1.tmps.getD 1 undef=v:=by rw[<- ha1,kK _ _ _ _ (by rw[d1]; decide),q1]
 have r7:a1.tmps.getD 7 undef=.nilIface:=by rw[<- ha1,d1,nq _ _ _ (by omega)]
 have rd:a1.defers=[]:=by rw[<- ha1,da,qd]
 clear ha1;refine wp_block (wp_seq (wp_region_list (one g2 (u:=.bool true) (by simp[execOp,e2,Act.eval,r7,hnil,hgd]) ?_)));generalize ha2:a1.put p2.dst (.bool true)=a2;have s2:a2.tmps.size=15:=by rw[<- ha2,fM,s1]
 have t1:a2.tmps.getD 1 undef=v:=by rw[<- ha2,kK _ _ _ _ (by rw[d2]; decide),r1]
 have t7:a2.tmps.getD 7 undef=.nilIface:=by rw[<- ha2,kK _ _ _ _ (by rw[d2]; decide),r7]
 have t8:a2.tmps.getD 8 undef=.bool true:=by rw[<- ha2,d2,nq _ _ _ (by omega)]
 have td:a2.defers=[]:=by rw[<- ha2,da,rd]
 clear ha2;refine wp_cond_true (by show a2.eval (.tmp 8)=_; exact t8) ?_;refine wp_seq (wp_region_list (one g3 (u:=.nilIface) (by simp[execOp,e3,Act.eval,t7]) ?_));generalize ha3:a2.put p3.dst .nilIface=a3;have s3:a3.tmps.size=15:=by rw[<- ha3,fM,s2]
 have u1:a3.tmps.getD 1 undef=v:=by rw[<- ha3,kK _ _ _ _ (by rw[d3]; decide),t1]
 have ud:a3.defers=[]:=by rw[<- ha3,da,td]
 clear ha3;refine wp_seq (wp_region_list (one g4 (u:=v) (by simp[execOp,e4,Act.eval,u1]) ?_));generalize ha4:a3.put p4.dst v=a4;have s4:a4.tmps.size=15:=by rw[<- ha4,fM,s3]
 have v9:a4.tmps.getD 9 undef=v:=by rw[<- ha4,d4,nq _ _ _ (by omega)]
 have vd:a4.defers=[]:=by rw[<- ha4,da,ud]
 clear ha4;refine one g5 (u:=v) (by simp[execOp,e5,Act.eval,v9]) ?_;generalize ha5:a4.put p5.dst v=a5;have v4:a5.tmps.getD 4 undef=v:=by rw[<- ha5,d5,nq _ _ _ (by omega)]
 have vd':a5.defers=[]:=by rw[<- ha5,da,vd]
 refine wp_ret ?_;show a5.defers=[]/\_;refine⟨vd',v,?_,rfl,rfl⟩;rw[Array.getD_eq_getD_getElem?]at v4;simp[results,hr,v4]
theorem N7 {P:Program} {g fc:FuncId} {fg ff:Func} {o0 o1 o2 o3:Oper} {id:Nat} {t:TypeId} {ats:Array TypeId}
  (hf:P.funcs[g]? = some fg) (hname:(fg.name == "runtime.NumGoroutine")=false) (hn:fg.ntmps=4) (hr:fg.results = #[]) (hb:fg.body=some (.region id #[o0,o1,o2,o3] true))
  (hff:P.funcs[fc]? = some ff) (hfn:(ff.name == "runtime.NumGoroutine")=false) (hfb:ff.body.isSome=true)
  (hm:P.follows .mixedOrders=true) (hs:yl .any #[o0,o1,o2,o3] 4 (Array.replicate 4 false) []=[[0,1,2,3],[1,0,2,3]])
  (g0:o0.guard=none) (g1:o1.guard=none) (g2:o2.guard=none) (g3:o3.guard=none)
  (d0:o0.dst=some 1) (d1:o1.dst=some 2) (d2:o2.dst=some 3)
  (e0:o0.op=.call ⟨.builtin .recover,#[],#[]⟩) (e1:o1.op=.load t (.tmp 0)) (e2:o2.op=.call ⟨.value (.func fc),#[.tmp 1,.tmp 2],ats⟩) (e3:o3.op=.store t (.tmp 0) (.tmp 3))
  (ht:pp P t=some false) (hsz:iP P t=some 1)
  (hface:∀(w:World) (n:Value),Calls P fc #[.nilIface,n] w λe w'=>e=.returned n/\w'=w):uJ P g:=by
 refine⟨⟨fg,hf,by rw[hb]; rfl,hname⟩,λw b n cur e hw hc=>?_⟩;refine callsD_of_wpS hf hb λc₀ cs hu=>?_
 rw[hn];generalize ha:(Act.mk (#[Value.pointer (some ⟨b,0,none⟩)]++Array.replicate (4 - #[Value.pointer (some ⟨b,0,none⟩)].size) undef) [])=a;have hsize:a.tmps.size=4:=by rw[<- ha]; rfl
 have h0:a.tmps.getD 0 undef=.pointer (some ⟨b,0,none⟩):=by rw[<- ha]; rfl
 have hd:a.defers=[]:=by rw[<- ha]
 clear ha;have hrec:recoverD (c₀::cs)=none:=by simp[recoverD,hu]
 have hcell:w.drew.cell? ⟨b,0,none⟩=some (.int .i64 n):=by show World.cell? w ⟨b,0,none⟩=_;simp[World.cell?,hw,hc]
 have hload:∀ a':Act,a'.tmps.getD 0 undef=.pointer (some ⟨b,0,none⟩)->(execOp a'.eval o1).run P w.drew=.ok (.value (.int .i64 n)) w.drew:=by intro a' h0';obtain⟨v,h1,h2⟩:=jA (P:=P) (ok:=λ_=>True) (w:=w.drew) (ρ:=λ_=>none) (b:=b) (o:=0) ht hsz (z:=.int .i64 n) (.inr ⟨rfl,_,hcell,.int _ _⟩);have:=h2.int_inv;subst this;simp[execOp,e1,Act.eval,h0',h1]
 have rest:∀ a':Act,a'.tmps.size=4->a'.tmps.getD 0 undef=.pointer (some ⟨b,0,none⟩)->a'.tmps.getD 1 undef=.nilIface->a'.tmps.getD 2 undef=.int .i64 n->a'.defers=[] ->
   wpOpsS P #[o0,o1,o2,o3] (bodyPostS P fg c₀ cs λe u' w'=>(∃ v,e=.returned v)/\u'=.returning/\w'=w.drew) [2,3] a' (c₀::cs) w.drew:=by
  intro a' k0 k1 k2 k3 k4;refine uG (o:=o2) rfl g2 ?_;have hrun:(execOp a'.eval o2).run P w.drew=.ok (.enter fc #[.nilIface,.int .i64 n]) w.drew:=by
   have hfn':¬ ff.name = "runtime.NumGoroutine":=by simpa using hfn
   obtain⟨cf,hcf⟩:=Option.isSome_iff_exists.1 hfb;have ef:a'.eval (.func fc)=.func (.func fc) #[] #[]:=rfl;have e1':a'.eval (.tmp 1)=.nilIface:=k2;have e2':a'.eval (.tmp 2)=.int .i64 n:=k3;simp[execOp,e2,resolve,Deferred.ofValue,ef,e1',e2',invoke,callFunc,hff,hfn',hcf]
  unfold Oper.wp;rw[hrun,Oper.upon_enter];refine(hface w.drew (.int .i64 n)).mono λe' w' he=>?_
  obtain⟨rfl,rfl⟩:=he;simp only;generalize ha3:a'.put o2.dst (.int .i64 n)=a3;have j0:a3.tmps.getD 0 undef=.pointer (some ⟨b,0,none⟩):=by rw[<- ha3,kK _ _ _ _ (by rw[d2]; decide),k1]
  have j3:a3.tmps.getD 3 undef=.int .i64 n:=by rw[<- ha3,d2,nq _ _ _ (by omega)]
  have jd:a3.defers=[]:=by rw[<- ha3,da,k4]
  refine uG (o:=o3) rfl g3 ?_;have hst:=run_storeCells_at P b 0 e [.int .i64 n] 0 cur w.drew hw (by have:0<cur.size:=(Array.getElem?_eq_some_iff.1 hc).1;show 0+0+1<=cur.size;omega) (by intro v hv; simp at hv; subst hv; rfl)
  simp only[afR]at hst;have hsame:(cur.toList.take 0++[Value.int .i64 n]++cur.toList.drop (0+[Value.int .i64 n].length)).toArray=cur:=by
   have h0:0<cur.size:=(Array.getElem?_eq_some_iff.1 hc).1;apply Array.ext_getElem?;intro i;cases i with
   | zero=>simp[hc]
   | succ i=>simp
  rw[hsame,setRow_self w.drew b cur e (0,0) hw]at hst;have hrun3:(execOp a3.eval o3).run P w.drew=.ok .skip w.drew:=by have e0':a3.eval (.tmp 0)=.pointer (some ⟨b,0,none⟩):=j0;have e3':a3.eval (.tmp 3)=.int .i64 n:=j3;have hcs:(Value.int .i64 n).cells = #[Value.int .i64 n]:=rfl;simp[execOp,e3,e0',e3',Instr.storeAt,Instr.sureAddr,storeVar,eu hsz,hcs,hst]
  unfold Oper.wp;rw[hrun3,Oper.upon_skip];show bodyPostS P fg c₀ cs _ .normal _ _ _;refine⟨by rw[da,jd],.returning,?_,.tuple #[],?_,⟨_,rfl⟩,rfl,rfl⟩
  ·rw[<- hu]
  ·simp[results,hr]
 refine zJ hm λl hl=>?_
 rw[show(#[o0,o1,o2,o3]:Array Oper).size=4 from rfl,hs]at hl;simp only[agJ,aho,or_false]at hl;rcases hl with rfl | rfl
 ·refine tM (o:=o0) rfl g0 e0 hrec (uG (o:=o1) rfl g1 (dY (hload _ (by rw[kK _ _ _ _ (by rw[d0]; decide),h0])) ?_));refine rest _ (by rw[fM,fM,hsize]) ?_ ?_ ?_ (by rw[da,da,hd])
  ·rw[kK _ _ _ _ (by rw[d1]; decide),kK _ _ _ _ (by rw[d0]; decide),h0]
  ·rw[kK _ _ _ _ (by rw[d1]; decide),d0,nq _ _ _ (by omega)]
  ·rw[d1,nq _ _ _ (by rw[fM]; omega)]
 ·refine uG (o:=o1) rfl g1 (dY (hload _ h0) (tM (o:=o0) rfl g0 e0 hrec ?_));refine rest _ (by rw[fM,fM,hsize]) ?_ ?_ ?_ (by rw[da,da,hd])
  ·rw[kK _ _ _ _ (by rw[d0]; decide),kK _ _ _ _ (by rw[d1]; decide),h0]
  ·rw[d0,nq _ _ _ (by rw[fM]; omega)]
  ·rw[kK _ _ _ _ (by rw[d0]; decide),d1,nq _ _ _ (by omega)]
end Go.Mach
end
section
namespace Go.Mach
def az {α:Type} (N:Nat) (a:α):α:=Nat.rec a (λ_ _=>a) N
theorem ac {α:Type} (N:Nat) (a:α):az N a=a:=by cases N <;> rfl
inductive AK where
 | f
 | i
 | b
 | fs
 | is
 | n
 | v
 | vs
 | r (t:RT)
def AK.Ty:AK->Type
 | .f=>Fl
 | .i=>Int
 | .b=>Bool
 | .fs=>List Fl
 | .is=>List Int
 | .n=>Nat
 | .v=>Value
 | .vs=>List V
 | .r t=>List t.Ty
def AK.mk:(k:AK)->k.Ty->Atom
 | .f,x=>.fl x
 | .i,x=>.int x
 | .b,x=>.bool x
 | .fs,x=>.fls x
 | .is,x=>.ints x
 | .n,x=>.nat x
 | .v,x=>.val x
 | .vs,x=>.vs x
 | .r t,x=>.recs t x
def AK.ap:(k:AK)->(k.Ty->Bool)->Atom->Bool
 | .f,F,.fl x=>F x
 | .i,F,.int x=>F x
 | .b,F,.bool x=>F x
 | .fs,F,.fls x=>F x
 | .is,F,.ints x=>F x
 | .n,F,.nat x=>F x
 | .v,F,.val x=>F x
 | .vs,F,.vs x=>F x
 | .r t,F,.recs t' x=>RT.cast t t' x (λy=>F y) false
 | _,_,_=>false
theorem AK.ap_inv {k:AK} {F:k.Ty->Bool} {a:Atom} (h:k.ap F a=true):∃ x,a=k.mk x/\F x=true:=by
 cases k <;> cases a <;> simp only[AK.ap,af9]at h
 case r.recs t t' x=>
  obtain⟨e,h⟩:=RT.cast_inv h (by decide);subst e;exact⟨x,rfl,h⟩
 all_goals exact⟨_,rfl,h⟩
def Tup:List AK->Type
 | []=>Unit
 | k::r=>k.Ty × Tup r
def Cur (R:Type):List AK->Type
 | []=>R
 | k::r=>k.Ty->Cur R r
def mkA:(ks:List AK)->Tup ks->List Atom
 | [],_=>[]
 | k::r,t=>k.mk t.1::mkA r t.2
def apA:(ks:List AK)->Cur Bool ks->List Atom->Bool
 | [],F,[]=>F
 | k::r,F,a::l=>k.ap (λx=>apA r (F x) l) a
 | _,_,_=>false
def apT {R:Type}:(ks:List AK)->Cur R ks->Tup ks->R
 | [],F,_=>F
 | _::r,F,t=>apT r (F t.1) t.2
def cur {R:Type}:(ks:List AK)->(Tup ks->R)->Cur R ks
 | [],F=>F ()
 | _::r,F=>λx=>cur r λt=>F (x,t)
theorem Jc:∀(ks:List AK) (F:Cur Bool ks) (a:List Atom),apA ks F a=true -> ∃ t,a=mkA ks t/\apT ks F t=true
 | [],F,[],h=>⟨(),rfl,h⟩
 | k::r,F,a::l,h=>by
  obtain⟨x,e,h⟩:=AK.ap_inv h;obtain⟨t,e2,h⟩:=Jc r (F x) l h;rw[e,e2];exact⟨(x,t),rfl,h⟩
 | [],F,a::l,h=>nomatch h
 | k::r,F,[],h=>nomatch h
def unS:aL->List Blk
 | some b::r=>b::unS r
 | none::r=>unS r
 | []=>[]
theorem yr:∀(s:List Kq) (a:List Atom),s.all Option.isSome=true->ki s a=(unS (ki s a)).map some/\(unS (ki s a)).length=s.length
 | [],a,_=>⟨rfl,rfl⟩
 | none::ss,a,h=>by simp at h
 | some (e,sz,c)::ss,a,h=>by have i:=yr ss (c.build a).2 (by simpa using h);simp only[ki,unS,agl,afW];exact⟨by rw[<- i.1],by rw[i.2]⟩
noncomputable def FQ (sh:FnSh) (ks:List AK) (F:List Blk->(V->List Blk->Bool)->Cur Bool ks):Fs:=fe sh λa k=>apA ks (F (unS (sh.heap a)) k) a
def kMp (p:Nat) (H:List Blk) (k:V->List Blk->Bool):V->V->Bool:=match H.drop p with
 | ⟨e,sz,.cells (_::r)⟩::_=>λv c=>k v (H.set p ⟨e,sz,.cells (c::r)⟩)
 | _=>λ_ _=>false
def kM:Nat->List Blk->(V->List Blk->Bool)->V->V->Bool
 | 0,H,k=>λv _=>k v H
 | 1,H,k=>match H with
  | ⟨e,sz,.cells (x::r)⟩::tl=>λv c=>k v (⟨e,sz,.cells (c::r)⟩::tl)
  | _=>λ_ _=>false
 | 2,H,k=>λv _=>k v H
 | p+3,H,k=>kMp p H k
def rz:Nat->Cx->(Nat->Option Ann)->Nat->List V->List Blk->(V->List Blk->Bool)->Bool
 | 0=>kh
 | 1=>Jg false
 | 2=>Jg true
 | 3=>Cs none
 | 4=>Cs (some false)
 | _=>Cs (some true)
def HD (P:Program) (ref:Nat->Bool):Prop:=∀ g,g<1000000->ref (2000000+g)=true->uJ P g
theorem yE {m:Nat} {cx:Cx} (hO:OS cx) (hD:HD cx.P cx.ref) {an:Nat->Option Ann} {f:Nat} {args:List V} {H:List Blk} {k:V->List Blk->Bool} (hk:∀ fn c,cx.P.funcs[f]? = some fn->fn.body=some c->gP cx H.length an c 0) (h:rz m cx an f args H k=true) :
  ∃ r H',Ok cx.P f args H r H'/\k r H'=true:=by
 unfold rz at h;split at h
 ·obtain⟨r,H',h1,h2⟩:=si hO hk h; exact⟨r,H',h1.1,h2⟩
 ·obtain⟨r,H',h1,h2⟩:=yG hO hk h; exact⟨r,H',h1.1,h2⟩
 ·obtain⟨r,H',h1,h2⟩:=yG hO hk h; exact⟨r,H',h1.1,h2⟩
 ·exact oA hO hD hk h
 ·exact oA hO hD hk h
 ·exact oA hO hD hk h
structure OKL (P:Program) (ref:Nat->Bool) (L:List (Nat × Fs)):Prop where
 s:mM P (dH L)
 f:FrL ref L
 d:HD P ref
noncomputable def ofL (l:List (Nat × Fs)):Dr:=λf=>List.rec (λ_ _ _=>false) (λp _ ih=>cond (Nat.beq f p.1) p.2 ih) l
theorem D5:∀ l:List (Nat × Fs),ofL l=dH l
 | []=>rfl
 | (g,S)::r=>by
  funext f;have i:=congrFun (D5 r) f;show cond (Nat.beq f g) S (ofL r f)=cond (f==g) S (dH r f);have e:Nat.beq f g=(f==g):=by rw[agR]; simp[Nat.beq_eq]
  rw[i,e]
noncomputable def Po (l:List Nat) (g:Nat):Bool:=List.rec false (λx _ ih=>cond (Nat.beq g x) true ih) l
theorem Gj:∀{l:List Nat} {g:Nat},Po l g=true->g ∈ l
 | [],g,h=>by cases h
 | x::r,g,h=>by
  cases e:Nat.beq g x with
  | true=>rw[Nat.eq_of_beq_eq_true e]; exact ahr
  | false=>
   have h':cond (Nat.beq g x) true (Po r g)=true:=h;rw[e]at h';exact afE _ (Gj h')
noncomputable def cxL (P:Program) (ref:Nat->Bool) (N:Nat) (L:List (Nat × Fs)):Cx:=⟨P,ofL L,ref,N⟩
theorem OKL.os {P:Program} {ref:Nat->Bool} {L:List (Nat × Fs)} (h:OKL P ref L) (N:Nat):OS (cxL P ref N L):=by unfold cxL; rw[D5]; exact JR h.s h.f
theorem Rx {P:Program} {ref:Nat->Bool} (h:HD P ref):OKL P ref []:=⟨vW P,trivial,h⟩
theorem OKL.cons {P:Program} {ref:Nat->Bool} {L:List (Nat × Fs)} (h:OKL P ref L) {g:Nat} {S:Fs} (hg:bO P g S) (hf:FrF (mdR ref g) S):OKL P ref ((g,S)::L):=⟨iM hg h.s,⟨hf,h.f⟩,h.d⟩
theorem OKL.con {P:Program} {ref:Nat->Bool} {L:List (Nat × Fs)} (h:OKL P ref L) {g:Nat} {S:Fs} (hg:bO P g S) (h0:mdR ref g=0:=by kernel_rfl):OKL P ref ((g,S)::L):=h.cons hg (QP h0)
theorem OKL.alt {P:Program} {ref:Nat->Bool} {L:List (Nat × Fs)} (h:OKL P ref L) {g:Nat} {S:Fs} {sh:FnSh} (hg:bO P g S):bO P g (D6 S (ofL L g) sh):=by rw[D5]; exact QZ hg λargs H k hk=>h.s g args H k hk
theorem OKL.altF {P:Program} {ref:Nat->Bool} {L:List (Nat × Fs)} (h:OKL P ref L) {g:Nat} {S:Fs} {sh:FnSh} (hf:FrF (mdR ref g) S):FrF (mdR ref g) (D6 S (ofL L g) sh):=by rw[D5]; exact Xi hf (Ax L h.f g)
noncomputable def XG (m:Nat) (cx:Cx) (g:Nat):Fs:=λargs H k=>rz m cx (λ_=>none) g args H k
noncomputable def upM (P:Program) (ref:Nat->Bool) (N:Nat) (fm:Nat->Nat) (L:List (Nat × Fs)) (G:List Nat):List (Nat × Fs):=List.rec L (λg _ T=>(g,XG (fm g) (cxL P ref N T) g)::T) G
theorem OKL.up {P:Program} {ref:Nat->Bool} {L:List (Nat × Fs)} (h:OKL P ref L) {N:Nat} {fm:Nat->Nat}:∀{G:List Nat},(G.all λg=>mdR ref g==0)=true->OKL P ref (upM P ref N fm L G)
 | [],_=>h
 | g::r,h0=>by simp only[List.all_cons,afK,agX]at h0;have i:=OKL.up (N:=N) (fm:=fm) h (G:=r) h0.2;refine i.con (λargs H k hk=>?_) h0.1;exact yE (i.os N) h.d (λfn c _ _=>dE c _ λp hp=>by intro hk hh; cases hh) hk
def HkL (cx:Cx) (base:Nat) (an:Nat->Option Ann) (g:Nat):Nat->Nat->Prop
 | _,0=>True
 | i,n+1=>qn cx base an (lp cx.P g i)/\HkL cx base an g (i+1) n
theorem HkL.get {cx:Cx} {base:Nat} {an:Nat->Option Ann} {g:Nat}:∀{n i:Nat},HkL cx base an g i n -> ∀ j,i<=j->j<i+n->qn cx base an (lp cx.P g j)
 | 0,i,_,j,h1,h2=>by omega
 | n+1,i,h,j,h1,h2=>by
  by_cases e:j=i
  ·subst e; exact h.1
  ·exact HkL.get h.2 j (by omega) (by omega)
theorem OKL.tie {P:Program} {ref:Nat->Bool} {L:List (Nat × Fs)} (h:OKL P ref L) (m N:Nat) {g:Nat} {sh:FnSh} {ks:List AK} {F:List Blk->(V->List Blk->Bool)->Cur Bool ks} (an:Nat->Option Ann) (n:Nat) (hk:HkL (cxL P ref N L) sh.H.length an g 0 n)
  (he:∀ t k,rz m (cxL P ref N L) an g (sh.args (mkA ks t)) (unS (sh.heap (mkA ks t))) k=apT ks (F (unS (sh.heap (mkA ks t))) k) t)
  (hn:(lps P g).length=n) (hs:sh.H.all Option.isSome=true):bO P g (FQ sh ks F):=by
 intro args H k hS;unfold FQ fe at hS;split at hS
 ·rename_i a ha;obtain⟨rfl,e2⟩:=FnSh.ext_build ha;obtain⟨t,rfl,h3⟩:=Jc _ _ _ hS;obtain⟨b1,b2⟩:=yr sh.H (mN sh.A (mkA ks t)).2 hs;obtain rfl:H=unS (sh.heap (mkA ks t)):=qQ (e2.trans b1);rw[<- he t k]at h3;refine yE (h.os N) h.d (λfn c hfn hc=>dE c _ λp hp=>?_) h3;have e:lps P g=lA c 0:=by simp[lps,show P.funcs[g]? = some fn from hfn,hc]
  rw[<- e]at hp;obtain⟨i,hi,rfl⟩:=ag2 hp;have:=hk.get i (by omega) (by omega);rw[show(cxL P ref N L).P=P from rfl]at this;unfold lp at this;rw[List.getD_eq_getElem?_getD,List.getElem?_eq_getElem hi]at this;rw[show(unS (sh.heap (mkA ks t))).length=sh.H.length from b2];exact this
 ·cases hS
open Classical in
theorem Xo (md:Nat) (hm:md ≠ 0) (H:List Blk) (k:V->List Blk->Bool):kM md H (λr H'=>k r H'&&decide (FrB md H H'))=kM md H k:=by
 match md,hm with
 | 1,_=>
  cases H with
  | nil=>rfl
  | cons b tl=>
   obtain⟨e,sz,c⟩:=b;cases c with
   | cells cs=>
    cases cs with
    | nil=>rfl
    | cons x r=>
     funext v c;show(k v (⟨e,sz,.cells (c::r)⟩::tl)&&decide (FrB 1 (⟨e,sz,.cells (x::r)⟩::tl) (⟨e,sz,.cells (c::r)⟩::tl)))=k v (⟨e,sz,.cells (c::r)⟩::tl);rw[afi (of_eq_true (QL e sz x c r tl)),ahB]
   | _=>rfl
 | p+3,_=>
  simp only[kM,kMp];generalize List.drop p H=D;cases D with
  | nil=>rfl
  | cons b tl=>
   obtain⟨e,sz,c⟩:=b;cases c with
   | cells cs=>
    cases cs with
    | nil=>rfl
    | cons x r=>
     funext v c;show(k v (H.set p ⟨e,sz,.cells (c::r)⟩)&&decide (FrB (p+3) H (H.set p ⟨e,sz,.cells (c::r)⟩)))=k v (H.set p ⟨e,sz,.cells (c::r)⟩);rw[afi (of_eq_true (QN p H _)),ahB]
   | _=>rfl
 | 2,_=>
  funext v c;show(k v H&&decide (FrB 2 H H))=k v H;rw[afi (of_eq_true (QM H)),ahB]
open Classical in
theorem SI {md:Nat} (hm:md ≠ 0) {sh:FnSh} {ks:List AK} {F:(V->V->Bool)->Cur Bool ks} (hs:sh.H.all Option.isSome=true):FrF md (FQ sh ks λH k=>F (kM md H k)):=by
 refine Xh λa k hk=>?_
 refine⟨unS (sh.heap a),(yr sh.H _ hs).1,?_⟩;show apA ks (F (kM md _ _)) a=true;rw[Xo md hm];exact hk
def sel:List AK->List Nat->List AK
 | [],_=>[]
 | _::_,[]=>[]
 | _::r,0::m=>sel r m
 | k::r,(_+1)::m=>k::sel r m
def HO:(ks:List AK)->(m:List Nat)->Tup ks->Tup (sel ks m)
 | [],_,_=>()
 | _::_,[],_=>()
 | _::r,0::m,t=>HO r m t.2
 | _::r,(_+1)::m,t=>(t.1,HO r m t.2)
def Gv:(ks:List AK)->(m:List Nat)->Tup ks->Tup (sel ks m)->Tup ks
 | [],_,t,_=>t
 | _::_,[],t,_=>t
 | _::r,0::m,t,v=>(t.1,Gv r m t.2 v)
 | _::r,(_+1)::m,t,v=>(v.1,Gv r m t.2 v.2)
theorem Bn:∀(ks:List AK) (m:List Nat) (t:Tup ks),Gv ks m t (HO ks m t)=t
 | [],_,t=>rfl
 | _::_,[],t=>rfl
 | _::r,0::m,t=>by
  show(t.1,Gv r m t.2 (HO r m t.2))=t;rw[Bn r m t.2]; rfl
 | _::r,(_+1)::m,t=>by show(t.1,Gv r m t.2 (HO r m t.2))=t;rw[Bn r m t.2]; rfl
def Pr:List AK->Type
 | []=>Unit
 | [k]=>k.Ty
 | k::k'::r=>k.Ty × Pr (k'::r)
def toT:(ks:List AK)->Pr ks->Tup ks
 | [],_=>()
 | [_],v=>(v,())
 | _::k'::r,v=>(v.1,toT (k'::r) v.2)
def ofT:(ks:List AK)->Tup ks->Pr ks
 | [],_=>()
 | [_],t=>t.1
 | _::k'::r,t=>(t.1,ofT (k'::r) t.2)
theorem Qh:∀(ks:List AK) (t:Tup ks),toT ks (ofT ks t)=t
 | [],_=>rfl
 | [_],t=>rfl
 | _::k'::r,t=>by show(t.1,toT (k'::r) (ofT (k'::r) t.2))=t;rw[Qh (k'::r) t.2]; rfl
def apH {R:Type}:(ks:List AK)->Cur R ks->(R->Tup ks->Bool)->List Atom->Bool
 | [],F,D,[]=>D F ()
 | k::r,F,D,a::l=>k.ap (λx=>apH r (F x) (λf t=>D f (x,t)) l) a
 | _,_,_,_=>false
theorem Jd {R:Type}:∀(ks:List AK) (F:Cur R ks) (D:R->Tup ks->Bool) (a:List Atom),apH ks F D a=true -> ∃ t,a=mkA ks t/\D (apT ks F t) t=true
 | [],F,D,[],h=>⟨(),rfl,h⟩
 | k::r,F,D,a::l,h=>by
  obtain⟨x,e,h⟩:=AK.ap_inv h;obtain⟨t,e2,h⟩:=Jd r (F x) _ l h;rw[e,e2];exact⟨(x,t),rfl,h⟩
 | [],F,D,a::l,h=>nomatch h
 | k::r,F,D,[],h=>nomatch h
noncomputable def hkT (ks:List AK) (m:List Nat) (N:Nat) (F:K->Cur (Pr (sel ks m)->(Pr (sel ks m)->Bool)->Bool) ks):List Atom->K->Bool:=
 λa κ=>apH ks (F κ) (λf t=>ah N f (ofT _ (HO ks m t))) a
theorem au {cx:Cx} {base:Nat} {an:Nat->Option Ann} {p:Nat × Code} {sh:StSh} {ks:List AK} {m:List Nat} {N:Nat} {F:K->Cur (Pr (sel ks m)->(Pr (sel ks m)->Bool)->Bool) ks}
  (h:∀ t κ v K,cS cx base an p.2 p.1 (sh.build (mkA ks (Gv ks m t (toT _ v)))) (tc cx.P base (an p.1) κ K)=apT ks (F κ) t v λv'=>K (sh.build (mkA ks (Gv ks m t (toT _ v')))):=by intro t κ v K; kernel_rfl)
  (hN:cx.N=N:=by kernel_rfl):wF cx base an p (sh,hkT ks m N F):=by
 intro a κ hh;simp only[hkT]at hh;obtain⟨t,rfl,h4⟩:=Jd _ _ _ _ hh;have:=Q6 (step:=λs k=>cS cx base an p.2 p.1 s (tc cx.P base (an p.1) κ k)) (λv=>sh.build (mkA ks (Gv ks m t (toT _ v)))) (h t κ) cx.N (ofT _ (HO ks m t));rw[Qh,Bn,hN]at this;rw[hN];exact this.trans h4
theorem av {cx:Cx} {base:Nat} {an:Nat->Option Ann} {p:Nat × Code} (x:StSh × (List Atom->K->Bool)) (h:wF cx base an p x) (hh:xP (an p.1)=some (qR [x]):=by kernel_rfl):qn cx base an p:=FJ [x] hh ⟨h,trivial⟩
theorem HW {cx:Cx} {base:Nat} {an:Nat->Option Ann} {p:Nat × Code} (x y:StSh × (List Atom->K->Bool)) (h:wF cx base an p x) (h':wF cx base an p y) (hh:xP (an p.1)=some (qR [x,y]):=by kernel_rfl):qn cx base an p:=FJ [x,y] hh ⟨h,h',trivial⟩
theorem Of {a b a' b':Bool} (e:a'=b') (h1:a=a') (h2:b'=b):a=b:=h1.trans (e.trans h2)
noncomputable def ad (L:List (Nat × Fs)) (g:Nat) (sh:FnSh) (ks:List AK) {σ:Type} (F:σ->((V->List Blk->Bool)->Cur Bool ks)) (M:Nat) (G:σ):List (Nat × Fs):=(g,FQ sh ks (λ_=>F (az M G)))::L
theorem OKL.adT {P:Program} {ref:Nat->Bool} {L:List (Nat × Fs)} (h:OKL P ref L) {L':List (Nat × Fs)} (h':OKL P ref L') (m N:Nat) {g:Nat} {sh:FnSh} {ks:List AK} {σ:Type} {F:σ->((V->List Blk->Bool)->Cur Bool ks)} {M:Nat} {G:σ} (an:Nat->Option Ann) (n:Nat) (hk:HkL (cxL P ref N L') sh.H.length an g 0 n)
  (he:∀ t k,rz m (cxL P ref N L') an g (sh.args (mkA ks t)) (unS (sh.heap (mkA ks t))) k=apT ks (F G k) t:=by intro t k; kernel_rfl)
  (hn:(lps P g).length=n:=by kernel_rfl) (hs:sh.H.all Option.isSome=true:=by kernel_rfl) (h0:mdR ref g=0:=by kernel_rfl):OKL P ref (ad L g sh ks F M G):=by
 have gg:=h'.tie m N (g:=g) (sh:=sh) (ks:=ks) (F:=λ_=>F G) an n hk he hn hs;unfold ad;rw[ac];exact h.con (gg) h0
theorem OKL.adO {P:Program} {ref:Nat->Bool} {L:List (Nat × Fs)} (h:OKL P ref L) (m N:Nat) {g:Nat} {sh:FnSh} {ks:List AK} {σ:Type} {F:σ->((V->List Blk->Bool)->Cur Bool ks)} {M:Nat} {G:σ}
  (he:∀ t k,rz m (cxL P ref N L) (λ_=>none) g (sh.args (mkA ks t)) (unS (sh.heap (mkA ks t))) k=apT ks (F G k) t:=by intro t k; kernel_rfl)
  (hn:(lps P g).length=0:=by kernel_rfl) (hs:sh.H.all Option.isSome=true:=by kernel_rfl) (h0:mdR ref g=0:=by kernel_rfl):OKL P ref (ad L g sh ks F M G):=h.adT h m N _ 0 trivial he hn hs h0
noncomputable def ao (L:List (Nat × Fs)) (g:Nat) (sh:FnSh) (ks:List AK) {σ:Type} (F:σ->((V->List Blk->Bool)->Cur Bool ks)) (M:Nat) (G:σ):List (Nat × Fs):=(g,D6 (FQ sh ks (λ_=>F (az M G))) (ofL L g) sh)::L
theorem OKL.aoT {P:Program} {ref:Nat->Bool} {L:List (Nat × Fs)} (h:OKL P ref L) {L':List (Nat × Fs)} (h':OKL P ref L') (m N:Nat) {g:Nat} {sh:FnSh} {ks:List AK} {σ:Type} {F:σ->((V->List Blk->Bool)->Cur Bool ks)} {M:Nat} {G:σ} (an:Nat->Option Ann) (n:Nat) (hk:HkL (cxL P ref N L') sh.H.length an g 0 n)
  (he:∀ t k,rz m (cxL P ref N L') an g (sh.args (mkA ks t)) (unS (sh.heap (mkA ks t))) k=apT ks (F G k) t:=by intro t k; kernel_rfl)
  (hn:(lps P g).length=n:=by kernel_rfl) (hs:sh.H.all Option.isSome=true:=by kernel_rfl) (h0:mdR ref g=0:=by kernel_rfl):OKL P ref (ao L g sh ks F M G):=by
 have gg:=h'.tie m N (g:=g) (sh:=sh) (ks:=ks) (F:=λ_=>F G) an n hk he hn hs;unfold ao;rw[ac];exact h.con (h.alt (gg)) h0
theorem OKL.aoO {P:Program} {ref:Nat->Bool} {L:List (Nat × Fs)} (h:OKL P ref L) (m N:Nat) {g:Nat} {sh:FnSh} {ks:List AK} {σ:Type} {F:σ->((V->List Blk->Bool)->Cur Bool ks)} {M:Nat} {G:σ}
  (he:∀ t k,rz m (cxL P ref N L) (λ_=>none) g (sh.args (mkA ks t)) (unS (sh.heap (mkA ks t))) k=apT ks (F G k) t:=by intro t k; kernel_rfl)
  (hn:(lps P g).length=0:=by kernel_rfl) (hs:sh.H.all Option.isSome=true:=by kernel_rfl) (h0:mdR ref g=0:=by kernel_rfl):OKL P ref (ao L g sh ks F M G):=h.aoT h m N _ 0 trivial he hn hs h0
noncomputable def ad1 (md:Nat) (L:List (Nat × Fs)) (g:Nat) (sh:FnSh) (ks:List AK) {σ:Type} (F:σ->((V->V->Bool)->Cur Bool ks)) (M:Nat) (G:σ):List (Nat × Fs):=(g,FQ sh ks (λH k=>F (az M G) (kM md H k)))::L
theorem OKL.ad1T {P:Program} {ref:Nat->Bool} {L:List (Nat × Fs)} (h:OKL P ref L) {L':List (Nat × Fs)} (h':OKL P ref L') (m N:Nat) {md:Nat} {g:Nat} {sh:FnSh} {ks:List AK} {σ:Type} {F:σ->((V->V->Bool)->Cur Bool ks)} {M:Nat} {G:σ} (an:Nat->Option Ann) (n:Nat) (hk:HkL (cxL P ref N L') sh.H.length an g 0 n)
  (he:∀ t k,rz m (cxL P ref N L') an g (sh.args (mkA ks t)) (unS (sh.heap (mkA ks t))) k=apT ks (F G (kM md (unS (sh.heap (mkA ks t))) k)) t:=by intro t k; kernel_rfl)
  (hn:(lps P g).length=n:=by kernel_rfl) (hs:sh.H.all Option.isSome=true:=by kernel_rfl) (h0:mdR ref g=md:=by kernel_rfl) (hm:md ≠ 0:=by decide):OKL P ref (ad1 md L g sh ks F M G):=by
 have gg:=h'.tie m N (g:=g) (sh:=sh) (ks:=ks) (F:=λH k=>F G (kM md H k)) an n hk he hn hs;unfold ad1;rw[ac];exact h.cons (gg) (Jv h0 (SI hm hs))
theorem OKL.ad1O {P:Program} {ref:Nat->Bool} {L:List (Nat × Fs)} (h:OKL P ref L) (m N:Nat) {md:Nat} {g:Nat} {sh:FnSh} {ks:List AK} {σ:Type} {F:σ->((V->V->Bool)->Cur Bool ks)} {M:Nat} {G:σ}
  (he:∀ t k,rz m (cxL P ref N L) (λ_=>none) g (sh.args (mkA ks t)) (unS (sh.heap (mkA ks t))) k=apT ks (F G (kM md (unS (sh.heap (mkA ks t))) k)) t:=by intro t k; kernel_rfl)
  (hn:(lps P g).length=0:=by kernel_rfl) (hs:sh.H.all Option.isSome=true:=by kernel_rfl) (h0:mdR ref g=md:=by kernel_rfl) (hm:md ≠ 0:=by decide):OKL P ref (ad1 md L g sh ks F M G):=h.ad1T h m N _ 0 trivial he hn hs h0 hm
noncomputable def ao1 (md:Nat) (L:List (Nat × Fs)) (g:Nat) (sh:FnSh) (ks:List AK) {σ:Type} (F:σ->((V->V->Bool)->Cur Bool ks)) (M:Nat) (G:σ):List (Nat × Fs):=(g,D6 (FQ sh ks (λH k=>F (az M G) (kM md H k))) (ofL L g) sh)::L
theorem OKL.ao1T {P:Program} {ref:Nat->Bool} {L:List (Nat × Fs)} (h:OKL P ref L) {L':List (Nat × Fs)} (h':OKL P ref L') (m N:Nat) {md:Nat} {g:Nat} {sh:FnSh} {ks:List AK} {σ:Type} {F:σ->((V->V->Bool)->Cur Bool ks)} {M:Nat} {G:σ} (an:Nat->Option Ann) (n:Nat) (hk:HkL (cxL P ref N L') sh.H.length an g 0 n)
  (he:∀ t k,rz m (cxL P ref N L') an g (sh.args (mkA ks t)) (unS (sh.heap (mkA ks t))) k=apT ks (F G (kM md (unS (sh.heap (mkA ks t))) k)) t:=by intro t k; kernel_rfl)
  (hn:(lps P g).length=n:=by kernel_rfl) (hs:sh.H.all Option.isSome=true:=by kernel_rfl) (h0:mdR ref g=md:=by kernel_rfl) (hm:md ≠ 0:=by decide):OKL P ref (ao1 md L g sh ks F M G):=by
 have gg:=h'.tie m N (g:=g) (sh:=sh) (ks:=ks) (F:=λH k=>F G (kM md H k)) an n hk he hn hs;unfold ao1;rw[ac];exact h.cons (h.alt (gg)) (h.altF (Jv h0 (SI hm hs)))
theorem OKL.ao1O {P:Program} {ref:Nat->Bool} {L:List (Nat × Fs)} (h:OKL P ref L) (m N:Nat) {md:Nat} {g:Nat} {sh:FnSh} {ks:List AK} {σ:Type} {F:σ->((V->V->Bool)->Cur Bool ks)} {M:Nat} {G:σ}
  (he:∀ t k,rz m (cxL P ref N L) (λ_=>none) g (sh.args (mkA ks t)) (unS (sh.heap (mkA ks t))) k=apT ks (F G (kM md (unS (sh.heap (mkA ks t))) k)) t:=by intro t k; kernel_rfl)
  (hn:(lps P g).length=0:=by kernel_rfl) (hs:sh.H.all Option.isSome=true:=by kernel_rfl) (h0:mdR ref g=md:=by kernel_rfl) (hm:md ≠ 0:=by decide):OKL P ref (ao1 md L g sh ks F M G):=h.ao1T h m N _ 0 trivial he hn hs h0 hm
abbrev HP:=StSh × (List Atom->K->Bool)
def a2 (bid:Nat) (nr:Nrm) (ex:List (Nat × List Nat)) (ret:List Nat) (h:List HP) (rest:Nat->Option Ann):Nat->Option Ann:=λb=>cond (Nat.beq b bid) (some ⟨nr,ex.map λe=>(e.1,⟨e.2,[],[],[]⟩),some ⟨ret,[],[],[]⟩,some (qR h)⟩) (rest b)
def a1 (bid:Nat) (keep:List Nat) (virt:List (Nat × Option Nat × Nat)) (ex:List (Nat × List Nat)) (ret:List Nat) (h:List HP) (rest:Nat->Option Ann):Nat->Option Ann:=a2 bid ⟨keep,virt,[],[]⟩ ex ret h rest
def a0:Nat->Option Ann:=λ_=>none
theorem OKL.top {P:Program} {ref:Nat->Bool} {L:List (Nat × Fs)} (h:OKL P ref L) (N:Nat) {g:Nat} {args:List V} {b:Bool}
  (hb:b=true) (he:kh (cxL P ref N L) (λ_=>none) g args [] (λr H=>match r,H with | .bool b,[]=>b | _,_=>false)=b:=by kernel_rfl)
  (hn:(lps P g).length=0:=by kernel_rfl):OkC P g args [] (.bool true) []:=
 Qi (cx:=cxL P ref N L) (h.os N) (λ_=>none) 0 hn (λi hi=>by omega) (he.trans hb)
theorem Hw (b:Nat):FRep (fp b) (.float .f64 b):=by
 unfold fp;cases h:isNaN b with
 | true=>exact⟨b,rfl,h⟩
 | false=>rfl
theorem xd {ok:Nat->Prop} {w:World} {ρ:Rho} {x:V} {vs:List Value} (h:RepL ok w ρ [x] vs):∃ v,vs=[v]/\Rep ok w ρ x v:=by
 obtain⟨h1,h2⟩:=h
 match vs,h1 with
 | [v],_=>exact⟨v,rfl,h2 0 x v rfl rfl⟩
theorem nx {P:Program} {f:Nat} {fn:Func} {e:Array Value->Sem Value} (hf:P.funcs[f]? = some fn) (hname:(fn.name == "runtime.NumGoroutine")=false)
  (hb:fn.body.isNone=true) (hn:Extern.findNext fn=none) (he:Extern.find fn=some e) (sh:FnSh) (S:List Atom->(V->List Blk->Bool)->Bool)
  (h:∀ a k,S a k=true->sh.heap a=[] /\ ∃ r,k r []=true /\ ∀(ok:Nat->Prop) (w:World) (ρ:Rho) (vs:List Value),RepL ok w ρ (sh.args a) vs -> ∃ v w',(e vs.toArray).run P w=.ok v w'/\(w'=w\/w'=w.drew)/\Rep ok w ρ r v):bO P f (fe sh S):=by
 refine FG λargs H k hs=>?_
 unfold fe at hs;split at hs
 ·rename_i a ha;obtain⟨rfl,e2⟩:=FnSh.ext_build ha;obtain⟨g0,r,g1,g2⟩:=h a k hs;rw[g0]at e2;obtain rfl:H=[]:=by simpa using e2
  refine⟨r,g1,λok w ρ vs hv=>?_⟩;obtain⟨v,w',q1,q2,q3⟩:=g2 ok w ρ vs hv;refine⟨v,w',?_,q2,q3⟩;rw[run_callFunc_extern hf hname hb hn he,q1]; rfl
 ·cases hs
theorem B8 {P:Program} {f:Nat} {fn:Func} (hf:P.funcs[f]? = some fn) (hname:(fn.name == "runtime.NumGoroutine")=false)
  (hb:fn.body.isNone=true) (hn:Extern.findNext fn=none) (he:Extern.find fn=some Extern.MathFloatBits.float64frombits) :
  bO P f (fe ⟨[.int .u64],[]⟩ λa k=>match a with | [.int n]=>k (.flt (fp n.toNat)) [] | _=>false):=by
 refine nx hf hname hb hn he _ _ λa k h=>?_
 split at h
 ·rename_i n;refine⟨rfl,_,h,λok w ρ vs hv=>?_⟩;obtain⟨v,rfl,hr⟩:=xd hv;obtain rfl:=hr.int_inv;exact⟨.float .f64 n.toNat,w,rfl,.inl rfl,.flt _ _ (Hw _)⟩
 ·cases h
theorem K0 {P:Program} {f:Nat} {fn:Func} (hf:P.funcs[f]? = some fn) (hname:(fn.name == "runtime.NumGoroutine")=false)
  (hb:fn.body.isNone=true) (hn:Extern.findNext fn=none) (he:Extern.find fn=some Extern.MathFloatBits.float64bits) :
  bO P f (fe ⟨[.flt],[]⟩ λa k=>match a with | [.fl (some b)]=>k (.int .u64 b) [] | _=>false):=by
 refine nx hf hname hb hn he _ _ λa k h=>?_
 split at h
 ·rename_i b;refine⟨rfl,_,h,λok w ρ vs hv=>?_⟩;obtain⟨v,rfl,hr⟩:=xd hv;have hv:=hr.flt_inv;obtain rfl:v=.float .f64 b:=hv;exact⟨.int .u64 b,w,rfl,.inl rfl,.int _ _⟩
 ·cases h
theorem CG {P:Program} {f:Nat} {fn:Func} (hf:P.funcs[f]? = some fn) (hname:(fn.name == "runtime.NumGoroutine")=false)
  (hb:fn.body.isNone=true) (hn:Extern.findNext fn=none) (he:Extern.find fn=some Extern.MathSqrt.sqrt) (hnan:∀ b,isNaN b=true->Ieee.double.sqrt b=none) :
  bO P f (fe ⟨[.flt],[]⟩ λa k=>match a with | [.fl x]=>k (.flt (ba x)) [] | _=>false):=by
 refine nx hf hname hb hn he _ _ λa k h=>?_
 split at h
 ·rename_i x;refine⟨rfl,_,h,λok w ρ vs hv=>?_⟩;obtain⟨v,rfl,hr⟩:=xd hv;have hv:FRep x v:=hr.flt_inv;obtain⟨b,rfl⟩:=hv.float;have hs:Ieee.double.sqrt b=ba x:=by
   cases x with
   | none=>obtain⟨b',e,hb'⟩:=hv; cases e; rw[hnan _ hb']; rfl
   | some b'=>cases hv; rfl
  cases hq:ba x with
  | some r=>
   refine⟨.float .f64 r,w,?_,.inl rfl,.flt _ _ rfl⟩;rw[hq]at hs;have e1:Extern.MathSqrt.sqrt [Value.float .f64 b].toArray=(match Ieee.double.sqrt b with | some r=>pure (.float .f64 r) | none=>do pure (.float .f64 (<- choose (.nanBits .f64 b b)))):=rfl;rw[e1,hs]; rfl
  | none=>
   rw[hq]at hs;refine⟨.float .f64 ((Question.nanBits .f64 b b).cut (w.tape w.drawn (.nanBits .f64 b b))),w.drew,?_,.inr rfl,.flt _ _ ⟨_,rfl,xR _ _ _⟩⟩;have e1:Extern.MathSqrt.sqrt [Value.float .f64 b].toArray=(match Ieee.double.sqrt b with | some r=>pure (.float .f64 r) | none=>do pure (.float .f64 (<- choose (.nanBits .f64 b b)))):=rfl;rw[e1,hs]; simp[Question.forced]
 ·cases h
theorem DF {P:Program} {f:Nat} {fn:Func} (hf:P.funcs[f]? = some fn) (hname:(fn.name == "runtime.NumGoroutine")=false)
  (hb:fn.body.isNone=true) (hn:Extern.findNext fn=none) (he:Extern.find fn=some Extern.MathFloatBits.float64bits) :
  bO P f (fe ⟨[.fb],[]⟩ λa k=>match a with | [.nat b]=>k (.int .u64 b) [] | _=>false):=by
 refine nx hf hname hb hn he _ _ λa k h=>?_
 split at h
 ·rename_i b;refine⟨rfl,_,h,λok w ρ vs hv=>?_⟩;obtain⟨v,rfl,hr⟩:=xd hv;have hv:Rep ok w ρ (.val (.float .f64 b)) v:=hr;cases hv;exact⟨.int .u64 b,w,rfl,.inl rfl,.int _ _⟩
 ·cases h
def Oi:List V->List Value->List V
 | .flt _::r,v::vs=>.val v::Oi r vs
 | a::r,_::vs=>a::Oi r vs
 | r,[]=>r
 | [],_=>[]
theorem Fy {ok:Nat->Prop} {w:World} {ρ:Rho}:∀(args:List V) (vs:List Value),RepL ok w ρ args vs->RepL ok w ρ (Oi args vs) vs
 | [],vs,h=>by cases vs <;> exact h
 | a::r,[],h=>by cases a <;> exact h
 | a::r,v::vs,h=>by
  have hr:RepL ok w ρ r vs:=⟨by have:=h.1; simpa using this,λi c u hc hu=>h.2 (i+1) c u (by simpa using hc) (by simpa using hu)⟩
  have ih:=Fy r vs hr;have ha:Rep ok w ρ a v:=h.2 0 a v rfl rfl;have key:∀ a',Rep ok w ρ a' v->RepL ok w ρ (a'::Oi r vs) (v::vs):=by
   intro a' ha';refine⟨by have:=ih.1; simp[this],λi c u hc hu=>?_⟩;cases i with
   | zero=>simp at hc hu; subst hc; subst hu; exact ha'
   | succ i=>exact ih.2 i c u (by simpa using hc) (by simpa using hu)
  cases a <;> first | exact key _ (.val _) | exact key _ ha
theorem SO {P:Program} {f:Nat} {args:List V} {H:List Blk} {r:V} {H':List Blk} (h:∀ vs:List Value,(∀(i:Nat) x v,args[i]? = some (.flt x)->vs[i]? = some v->FRep x v)->args.length=vs.length->Ok P f (Oi args vs) H r H'):Ok P f args H r H':=by intro w ρ ok vs hs hd ha;refine h vs (λi x v hx hv=>?_) ha.1 w ρ ok vs hs hd (Fy args vs ha);have:=ha.2 i _ v hx hv;exact this.flt_inv
theorem Bp {ok:Nat->Prop} {w:World} {ρ:Rho} {x y z:V} {vs:List Value} (h:RepL ok w ρ [x,y,z] vs):∃ u v t,vs=[u,v,t]/\Rep ok w ρ x u/\Rep ok w ρ y v/\Rep ok w ρ z t:=by
 obtain⟨h1,h2⟩:=h
 match vs,h1 with
 | [u,v,t],_=>exact⟨u,v,t,rfl,h2 0 x u rfl rfl,h2 1 y v rfl rfl,h2 2 z t rfl rfl⟩
def Hn:Array Value->Sem Value:=match Extern.MathBitsCarry.rows with
 | (_,e)::_=>e
 | []=>λ_=>pure .nilIface
def IW:Array Value->Sem Value:=match Extern.MathBitsCarry.rows with
 | _::(_,e)::_=>e
 | _=>λ_=>pure .nilIface
theorem Db {P:Program} {w:World} (nm:String) (k1 k2 k3:IntKind) (x y c:Int) (hc:c.toNat<=1):(Extern.MathBitsCarry.three nm #[.int k1 x,.int k2 y,.int k3 c]).run P w=.ok (x.toNat,y.toNat,c.toNat) w:=match c,hc with
 | .ofNat 0,_=>rfl
 | .ofNat 1,_=>rfl
 | .ofNat (n+2),h=>absurd h (by show ¬(n+2<=1); omega)
 | .negSucc n,_=>rfl
theorem Mg {P:Program} {w:World} (k1 k2 k3:IntKind) (x y c:Int) (hc:c.toNat<=1):(Hn #[.int k1 x,.int k2 y,.int k3 c]).run P w=.ok (.tuple #[.int .u64 (((x.toNat+y.toNat+c.toNat)%18446744073709551616:Nat):Int),.int .u64 (((x.toNat+y.toNat+c.toNat) / 18446744073709551616:Nat):Int)]) w:=by simp only[Hn,Extern.MathBitsCarry.rows,Sem.run_bind,Db "Add64" k1 k2 k3 x y c hc,Result.andThen_ok,Sem.run_pure,Extern.MathBitsCarry.pair,Extern.MathBitsCarry.m64];rfl
theorem Mh {P:Program} {w:World} (k1 k2 k3:IntKind) (x y c:Int) (hc:c.toNat<=1):(IW #[.int k1 x,.int k2 y,.int k3 c]).run P w=.ok (.tuple #[.int .u64 (((x.toNat+18446744073709551616 - y.toNat - c.toNat)%18446744073709551616:Nat):Int),.int .u64 (cond (decide (x.toNat<y.toNat+c.toNat)) 1 0)]) w:=by
 simp only[IW,Extern.MathBitsCarry.rows,Sem.run_bind,Db "Sub64" k1 k2 k3 x y c hc,Result.andThen_ok,Sem.run_pure,Extern.MathBitsCarry.pair,Extern.MathBitsCarry.m64];by_cases h:x.toNat<y.toNat+c.toNat
 ·simp[h]
 ·simp[h]
theorem AB {P:Program} {f:Nat} {fn:Func} (hf:P.funcs[f]? = some fn) (hname:(fn.name == "runtime.NumGoroutine")=false)
  (hb:fn.body.isNone=true) (hn:Extern.findNext fn=none) (he:Extern.find fn=some Hn) :
  bO P f (fe ⟨[.int .u64,.int .u64,.int .u64],[]⟩ λa k=>match a with
   | [.int x,.int y,.int c]=>(decide (c.toNat<=1))&&k (.tup [.int .u64 (((x.toNat+y.toNat+c.toNat)%18446744073709551616:Nat):Int),.int .u64 (((x.toNat+y.toNat+c.toNat) / 18446744073709551616:Nat):Int)]) []
   | _=>false):=by
 refine nx hf hname hb hn he _ _ λa k h=>?_
 split at h
 ·rename_i x y c;obtain⟨h1,h2⟩:=and_true h;refine⟨rfl,_,h2,λok w ρ vs hv=>?_⟩;obtain⟨u,v,t,rfl,r1,r2,r3⟩:=Bp hv;obtain rfl:=r1.int_inv; obtain rfl:=r2.int_inv; obtain rfl:=r3.int_inv;exact⟨_,w,Mg _ _ _ x y c (afp h1),.inl rfl,.tup _ [_,_] rfl λi a v ha hv=>by
   match i with
   | 0=>cases ha; cases hv; exact .int _ _
   | 1=>cases ha; cases hv; exact .int _ _
   | i+2=>cases ha⟩
 ·cases h
theorem AE {P:Program} {f:Nat} {fn:Func} (hf:P.funcs[f]? = some fn) (hname:(fn.name == "runtime.NumGoroutine")=false)
  (hb:fn.body.isNone=true) (hn:Extern.findNext fn=none) (he:Extern.find fn=some IW) :
  bO P f (fe ⟨[.int .u64,.int .u64,.int .u64],[]⟩ λa k=>match a with
   | [.int x,.int y,.int c]=>(decide (c.toNat<=1))&&k (.tup [.int .u64 (((x.toNat+18446744073709551616 - y.toNat - c.toNat)%18446744073709551616:Nat):Int),.int .u64 (cond (decide (x.toNat<y.toNat+c.toNat)) 1 0)]) []
   | _=>false):=by
 refine nx hf hname hb hn he _ _ λa k h=>?_
 split at h
 ·rename_i x y c;obtain⟨h1,h2⟩:=and_true h;refine⟨rfl,_,h2,λok w ρ vs hv=>?_⟩;obtain⟨u,v,t,rfl,r1,r2,r3⟩:=Bp hv;obtain rfl:=r1.int_inv; obtain rfl:=r2.int_inv; obtain rfl:=r3.int_inv;exact⟨_,w,Mh _ _ _ x y c (afp h1),.inl rfl,.tup _ [_,_] rfl λi a v ha hv=>by
   match i with
   | 0=>cases ha; cases hv; exact .int _ _
   | 1=>cases ha; cases hv; exact .int _ _
   | i+2=>cases ha⟩
 ·cases h
theorem ai {i:Int} {n:Nat} (h1:0<=i) (h2:i<n):inR i n=true:=by unfold inR; simp; omega
theorem HH (n:Int):af .i64 n=true ↔ -9223372036854775808<=n/\n<=9223372036854775807:=by
 unfold af;have e1:IntKind.min .i64 = -9223372036854775808:=by decide
 have e2:IntKind.max .i64=9223372036854775807:=by decide
 simp[e1,e2]
theorem Pp (b:Nat) (l c:Int):fY b l c=true↔0<=l/\l<=c/\c<=9223372036854775807/\(b:Int)*c<=140737488355328:=by unfold fY; simp
theorem aP {σ:Type} {step:σ->(σ->Bool)->Bool} (C:Nat->σ) (n:Nat) {N:Nat} (hn:n<N) {out:Bool} (hs:∀ i,i<n -> ∀ K:σ->Bool,step (C i) K=K (C (i+1))) (hx:∀ K,step (C n) K=out):ah N step (C 0)=out:=by
 have:∀ m,m<=n -> ∀ N,m<N->ah N step (C (n - m))=out:=by
  intro m;induction m with
  | zero=>
   intro _ N hN;cases N with
   | zero=>omega
   | succ N=>exact hx _
  | succ m ih=>
   intro hm N hN;cases N with
   | zero=>omega
   | succ N=>
    show step (C (n - (m+1))) (ah N step)=out;rw[hs (n - (m+1)) (by omega),show n - (m+1)+1=n - m by omega];exact ih (by omega) N (by omega)
 simpa using this n (afw _) N hn
end Go.Mach
end
section
namespace Go.Mach
open Ieee
def wT:Datum->Bool
 | .number ..=>true
 | _=>false
def aE:Fl->Bool
 | some b=>wT (Ieee.double.read b)
 | none=>false
def cls (b:Nat):Int:=
 if isNaN b then 1 else if b / 4503599627370496%2048=2047 then 2 else if b / 4503599627370496%2048=0 then(if b%4503599627370496=0 then 3 else 4)else 5
theorem QF (b:Nat):(decide (cls b=1)||decide (cls b=2)) = !wT (Ieee.double.read b):=by
 have e1:Ieee.double.signWeight=9223372036854775808:=by decide
 have e2:Ieee.double.binade=4503599627370496:=by decide
 have e3:Ieee.double.infRung=9218868437227405312:=by decide
 have hn:=fK b;unfold cls Format.read;simp only[e1,e2,e3];by_cases h:isNaN b=true
 ·have h':=hn.1 h;have a1:¬(b%9223372036854775808<4503599627370496):=by omega
  have a2:¬(b%9223372036854775808<9218868437227405312):=by omega
  have a3:¬(b%9223372036854775808=9218868437227405312):=by omega
  simp[h,a1,a2,a3,wT]
 ·have h':¬(9218868437227405312<b%9223372036854775808):=λq=>h (hn.2 q)
  simp only[h,afS,af9];by_cases a3:b%9223372036854775808=9218868437227405312
  ·have c1:b / 4503599627370496%2048=2047:=by omega
   simp[c1,a3,wT]
  ·have c1:¬(b / 4503599627370496%2048=2047):=by omega
   by_cases a1:b%9223372036854775808<4503599627370496
   ·simp only[c1,a1,agU,afS,wT]; split <;> (try split) <;> simp
   ·have a2:b%9223372036854775808<9218868437227405312:=by omega
    simp only[c1,a1,a2,agU,afS,wT]; split <;> (try split) <;> simp
theorem xu (n:Nat) (h:n<18446744073709551616):IntKind.wrap .u64 (n:Int)=n:=by
 have:IntKind.wrap .u64 (n:Int)=(n:Int)%18446744073709551616:=by rfl
 rw[this]; omega
theorem kg (a k:Nat) (hk:k<=64):aD .and .u64 (a:Int) ((2 ^ k - 1:Nat):Int)=((a%2 ^ k:Nat):Int):=by
 unfold aD rq;simp only[af8];have e:((BitVec.ofInt (IntKind.bits .u64) (a:Int)) &&& (BitVec.ofInt (IntKind.bits .u64) ((2 ^ k - 1:Nat):Int))).toNat=a%2 ^ k:=by show((BitVec.ofInt 64 (a:Int)) &&& (BitVec.ofInt 64 ((2 ^ k - 1:Nat):Int))).toNat=a%2 ^ k;rw[ah5,ags,ags,agA,agA];have h1:2 ^ k<=2 ^ 64:=afz (by decide) hk;have h0:0<2 ^ k:=afy k;rw[afu (a:=2 ^ k - 1) (by omega),ah0,Nat.mod_mod_of_dvd];exact Nat.pow_dvd_pow 2 hk
 rw[e,xu];have h1:2 ^ k<=2 ^ 64:=afz (by decide) hk;have:a%2 ^ k<2 ^ k:=afA _ (afy k);have:(2:Nat) ^ 64=18446744073709551616:=by decide
 omega
theorem pI (a:Nat):aD .andNot .u64 (a:Int) 9223372036854775808=((a%9223372036854775808:Nat):Int):=by
 unfold aD rq;simp only[af8];have e:((BitVec.ofInt (IntKind.bits .u64) (a:Int)) &&& ~~~(BitVec.ofInt (IntKind.bits .u64) (9223372036854775808:Int))).toNat=a%9223372036854775808:=by
  have hm : ~~~(BitVec.ofInt 64 (9223372036854775808:Int))=BitVec.ofNat 64 (2 ^ 63 - 1):=by decide
  show((BitVec.ofInt 64 (a:Int)) &&& ~~~(BitVec.ofInt 64 (9223372036854775808:Int))).toNat=a%9223372036854775808;rw[hm,ah5,ags,agA,agA,afu (a:=2 ^ 63 - 1) (by decide),ah0,Nat.mod_mod_of_dvd];exact Nat.pow_dvd_pow 2 (by decide)
 rw[e,xu];omega
def Ag:Fl->Int
 | some b=>cls b
 | none=>1
def cn:Fl->Fl
 | some b=>if isNaN b then none else some b
 | none=>none
def B5:Fl->Fl
 | some b=>fp (b%9223372036854775808)
 | none=>none
theorem E8 (x:Fl):(decide (Ag x=1)||decide (Ag x=2)) = !aE x:=by
 cases x with
 | none=>rfl
 | some b=>exact QF b
theorem QE (x:Fl):1<=Ag x:=by
 cases x with
 | none=>decide
 | some b=>show 1<=cls b; unfold cls; split <;> (try split) <;> (try split) <;> (try split) <;> decide
theorem ab {n:Int} (h1 : -9223372036854775808<=n) (h2:n<=9223372036854775807):af .i64 n=true:=(HH n).2 ⟨h1,h2⟩
theorem bI {b:Nat} {l c:Int} (h0:0<=l) (h1:l<=c) (h2:c<=9223372036854775807) (h3:(b:Int)*c<=140737488355328):fY b l c=true:=(Pp b l c).2 ⟨h0,h1,h2,h3⟩
theorem bJ {p:Prop} [Decidable p] (h:p):decide p=true:=by simp[h]
theorem bK {p:Prop} [Decidable p] (h:¬ p):decide p=false:=by simp[h]
def ou (p:Nat->Bool):Nat->Bool
 | 0=>true
 | n+1=>ou p n&&p n
theorem bU {p:Nat->Bool}:∀{n:Nat},ou p n=true ↔ ∀ i,i<n->p i=true
 | 0=>by simp[ou]
 | n+1=>by
  rw[ou,afK,bU];constructor
  ·intro h i hi;by_cases e:i=n
   ·subst e; exact h.2
   ·exact h.1 i (by omega)
  ·intro h;exact⟨λi hi=>h i (by omega),h n (by omega)⟩
def Ky (p:Nat->Bool) (n:Nat):Nat->Bool
 | 0=>true
 | m+1=>p (n - (m+1))&&Ky p n m
theorem ET {p:Nat->Bool} {n:Nat}:∀{m:Nat},m<=n->(Ky p n m=true ↔ ∀ i,n - m<=i->i<n->p i=true)
 | 0,_=>by simp only[Ky,true_iff]; intro i h1 h2; omega
 | m+1,hm=>by
  rw[Ky,afK,ET (by omega)];constructor
  ·intro h i h1 h2;by_cases e:i=n - (m+1)
   ·subst e; exact h.1
   ·exact h.2 i (by omega) h2
  ·intro h;exact⟨h _ (by omega) (by omega),λi h1 h2=>h i (by omega) h2⟩
theorem lH {σ:Type} {step:σ->(σ->Bool)->Bool} (C:Nat->σ) (p:Nat->Bool) (n:Nat) {N:Nat} (hn:n<N) {ex out:Bool}
  (hs:∀ i,i<n -> ∀ K:σ->Bool,step (C i) K=cond (p i) (K (C (i+1))) ex) (hx:∀ K,step (C n) K=out):ah N step (C 0)=cond (ou p n) out ex:=by
 have key:∀ m,m<=n -> ∀ N,m<N->ah N step (C (n - m))=cond (Ky p n m) out ex:=by
  intro m;induction m with
  | zero=>
   intro _ N hN;cases N with
   | zero=>omega
   | succ N=>exact hx _
  | succ m ih=>
   intro hm N hN;cases N with
   | zero=>omega
   | succ N=>
    show step (C (n - (m+1))) (ah N step)=_;have e:n - (m+1)+1=n - m:=by omega
    rw[hs (n - (m+1)) (by omega),e,ih (by omega) N (by omega),Ky];cases p (n - (m+1)) <;> rfl
 have:=key n (afw _) N hn;rw[afT]at this;rw[this];congr 1;rw[agR,ET (afw _),bU];exact⟨λh i hi=>h i (by omega) hi,λh i _ hi=>h i hi⟩
end Go.Mach
end
section
namespace Go.Mach
open Ieee
theorem GZ (b:Nat) (h:isNaN b=true):Ieee.double.sqrt b=none:=by obtain⟨s,g,e⟩:=s_ h;simp[Ieee.Format.sqrt,e,Ieee.Datum.root]
theorem AC {P:Program} {f:Nat} {F:Fs} {sh:FnSh} (S:List Atom->(V->List Blk->Bool)->Bool) (R:Fl->V) (hF:bO P f F) (hsh:sh=⟨[.flt],[]⟩)
  (hS:∀ a k,S a k=true -> ∃ x,a=[.fl x]/\k (R x) []=true)
  (h:∀ b k,F [.val (.float .f64 b)] [] k=k (R (cn (some b))) []) (hR:∀ b,R (cn (some b))=R (some b)):bO P f (fe sh S):=by
 subst hsh;intro args H k hk;unfold fe at hk;split at hk
 ·rename_i a ha;obtain⟨x,rfl,hx⟩:=hS a k hk;obtain⟨rfl,e2⟩:=FnSh.ext_build ha;obtain rfl:H=[]:=by simpa [FnSh.heap,ki]using e2
  refine⟨R x,[],?_,hx⟩;refine SO λvs hv hl=>?_
  match vs,hl with
  | [v],_=>
   have hr:FRep x v:=hv 0 x v rfl rfl;obtain⟨b,rfl⟩:=hr.float;have hb:R x=R (cn (some b)):=by
    cases x with
    | none=>obtain⟨b',e,hb'⟩:=hr; cases e; simp[cn,hb']
    | some b'=>cases hr; exact(hR _).symm
   obtain⟨r,H',h1,h2⟩:=hF [.val (.float .f64 b)] [] (λr H=>@decide (r=R (cn (some b))/\H=[]) (Classical.propDecidable _)) (by rw[h]; simp);simp only[ag3]at h2;obtain⟨rfl,rfl⟩:=h2;rw[hb];exact h1
 ·cases hk
theorem HR {P:Program} {f:Nat} {F:Fs} {sh:FnSh} (S:List Atom->(V->List Blk->Bool)->Bool) (R:Fl->Fl->V) (hF:bO P f F) (hsh:sh=⟨[.flt,.flt],[]⟩)
  (hS:∀ a k,S a k=true -> ∃ x y,a=[.fl x,.fl y]/\k (R x y) []=true)
  (h:∀ b c k,F [.val (.float .f64 b),.val (.float .f64 c)] [] k=k (R (cn (some b)) (cn (some c))) []) (hR:∀ x y,R (cn x) (cn y)=R x y):bO P f (fe sh S):=by
 subst hsh;intro args H k hk;unfold fe at hk;split at hk
 ·rename_i a ha;obtain⟨x,y,rfl,hx⟩:=hS a k hk;obtain⟨rfl,e2⟩:=FnSh.ext_build ha;obtain rfl:H=[]:=by simpa [FnSh.heap,ki]using e2
  refine⟨R x y,[],?_,hx⟩;refine SO λvs hv hl=>?_
  match vs,hl with
  | [v,u],_=>
   have key:∀{x:Fl} {v:Value},FRep x v -> ∃ b,v=.float .f64 b/\cn x=cn (some b):=by
    intro x v hr;obtain⟨b,rfl⟩:=hr.float;refine⟨b,rfl,?_⟩;cases x with
    | none=>obtain⟨b',e,hb'⟩:=hr; cases e; simp[cn,hb']
    | some b'=>cases hr; rfl
   obtain⟨b,rfl,e1⟩:=key (hv 0 x v rfl rfl);obtain⟨c,rfl,e2⟩:=key (hv 1 y u rfl rfl);obtain⟨r,H',h1,h2⟩:=hF [.val (.float .f64 b),.val (.float .f64 c)] [] (λr H=>@decide (r=R (cn (some b)) (cn (some c))/\H=[]) (Classical.propDecidable _)) (by rw[h]; simp);simp only[ag3]at h2;obtain⟨rfl,rfl⟩:=h2;rw[<- hR x y,e1,e2];exact h1
 ·cases hk
end Go.Mach
end
section
namespace Go.Mach
open Go.ChangeShapes Go.WideShapes Go.ChangeAt Go.RowKit
section
variable {H:Type} {enc:TypeId × Value->H} {P:Program} {w:World} {sp:Nat->Bool} {held:Bool}
end
theorem Dt {P:Program} {f:FuncId} {args:List V} {W:World} {vs:List Value} (h:OkC P f args [] (.bool true) []) (ht:∀ b zs,zI b=some zs->TabAt W b zs) (hr:∀ ok:Nat->Prop,(∀ b,ok b)->RepL ok W (λ_=>none) args vs) :
  Calls P f vs.toArray W λe W'=>e=.returned (.bool true)/\Below W.heap.size W W':=by
 have hsim:SimW (gh W ([]:List Blk).length (λ_=>True)) W (λ_=>none) (eB []):=by
  refine⟨λn blk h=>?_,λn m bn bm p q h=>?_,λn p _ h=>(by cases h),afw _,rfl,rfl,rfl,λ_ _ _ _=>rfl,λb zs e=>⟨trivial,ht b zs e⟩,λn p h=>(by cases h)⟩
  ·simp[eB,aq]at h
  ·simp[eB,aq]at h
 refine(h W (λ_=>none) (λ_=>True) vs hsim (λ_ _=>rfl) (hr _ λb=>⟨.inl trivial,λn blk p h=>by simp[eB,aq]at h⟩)).mono λe W' hq=>?_
 obtain⟨v,rfl,ρ',-,-,hs,hv⟩:=hq;have e1:v=.bool true:=by cases hv; rfl
 subst e1;exact⟨rfl,hs.os,hs.tape,hs.output,hs.size,λb hb=>hs.old b hb (λh=>h) λn p hn=>absurd hn (Nat.not_lt_zero n)⟩
def flat:Code->List Code
 | .seq a b=>flat a++flat b
 | c=>[c]
def nJ (cx:Cx) (base:Nat) (an:Nat->Option Ann):List Code->Nat->St->K->Bool
 | [],_,s,κ=>κ.nrm s
 | c::r,bid,s,κ=>cS cx base an c bid s { κ with nrm:=λs'=>nJ cx base an r bid s' κ }
theorem Ah (cx:Cx) (base:Nat) (an:Nat->Option Ann) (bid:Nat) (l2:List Code):∀(l1:List Code) (s:St) (κ:K),nJ cx base an (l1++l2) bid s κ=nJ cx base an l1 bid s { κ with nrm:=λs'=>nJ cx base an l2 bid s' κ }
 | [],s,κ=>rfl
 | c::r,s,κ=>by simp only[ahb,nJ];congr 1;congr 1;funext s';exact Ah cx base an bid l2 r s' κ
theorem Hy (cx:Cx) (base:Nat) (an:Nat->Option Ann):∀(c:Code) (bid:Nat) (s:St) (κ:K),cS cx base an c bid s κ=nJ cx base an (flat c) bid s κ:=by
 intro c;induction c with
 | seq a b iha ihb=>
  intro bid s κ;rw[flat,Ah,<- iha];simp only[cS];congr 1;congr 1;funext s';exact ihb bid s' κ
 | _=>intros; rfl
def cds (P:Program) (f:Nat):List Code:=match P.funcs[f]? with
 | some fn=>match fn.body with
  | some c=>flat c
  | none=>[]
 | none=>[]
def sg (P:Program) (f a n:Nat):List Code:=((cds P f).drop a).take n
def st0 (P:Program) (f:Nat) (args:List V) (H:List Blk):St:=match P.funcs[f]? with
 | some fn=>⟨args++List.replicate (fn.ntmps - args.length) .any,H.map some⟩
 | none=>⟨[],[]⟩
def QK (P:Program) (f base:Nat) (k:V->List Blk->Bool):K:=match P.funcs[f]? with
 | some fn=>⟨λs=>Fw P base fn.results.toList s k,λ_ _=>false,λs=>Fw P base fn.results.toList s k⟩
 | none=>⟨λ_=>false,λ_ _=>false,λ_=>false⟩
def okB (P:Program) (f:Nat):Bool:=match P.funcs[f]? with
 | some fn=>fn.body.isSome && !(fn.name == "runtime.NumGoroutine")
 | none=>false
theorem yF {cx:Cx} {an:Nat->Option Ann} {f:Nat} {args:List V} {H:List Blk} {k:V->List Blk->Bool} (h:okB cx.P f=true) :
  kh cx an f args H k=nJ cx H.length an ((cds cx.P f).drop 0) 0 (st0 cx.P f args H) (QK cx.P f H.length k):=by
 unfold okB at h;unfold kh cds st0 QK;split at h
 ·rename_i fn hfn;rw[hfn];simp only[afK]at h;obtain⟨c,hc⟩:=Option.isSome_iff_exists.1 h.1;simp only[hc,agN];rw[h.2,agq,Hy]
 ·cases h
def XN (K L:Int) (o:Oper):Oper:=match o.op with
 | .binOp .mul t x (.const (.int .u64 n)) t'=>{ o with op:=.binOp .mul t x (.const (.int .u64 (cond (n==K) L n))) t' }
 | .binOp .mul t x (.const (.int .u32 n)) t'=>{ o with op:=.binOp .mul t x (.const (.int .u32 (cond (n==K) L n))) t' }
 | _=>o
def G4 (K L:Int):Code->Code
 | .region i ops b=>.region i (ops.toList.map (XN K L)).toArray b
 | .seq a b=>.seq (G4 K L a) (G4 K L b)
 | .cond c a b=>.cond c (G4 K L a) (G4 K L b)
 | c=>c
end Go.Mach
end
