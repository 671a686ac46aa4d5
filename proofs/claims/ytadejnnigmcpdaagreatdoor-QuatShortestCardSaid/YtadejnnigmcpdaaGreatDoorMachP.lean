/-
  THE MACHINE, sixteenth part: a region that draws its order does as the machine says, in whatever order.
  Conditions: none.
-/
import Derived.Test.YtadejnnigmcpdaaGreatDoorMachI
import Derived.Orders
import Derived.LoopN
import Derived.Laws.Externs
import Derived.WalkKit
import Derived.ProofKit
import Derived.OpenShut
import Derived.Below
import Derived.Carry
import Derived.SizedLaws
set_option linter.unusedVariables false
section
namespace Go.Mach
structure Tr where
 o:Oper
 F:List V
 M:bh
 x:V
 U:Upd
 T:List Nat
def Tr.did (all:Array Oper) (t:Tr):Did:=⟨t.o.dst,Oper.reads all t.o,t.U.map (·.1),t.T⟩
def Tr.ok (P:Program) (base:Nat) (all:Array Oper) (t:Tr):Prop:=
 ((t.o.guard=none \/ ∃ j want g,t.o.guard=some (j,want)/\dU all j=some g/\t.F.getD g .any=.bool want)/\bC P base t.F t.M t.o.op t.x t.U t.T) \/
 (∃ j want g b,t.o.guard=some (j,want)/\dU all j=some g/\t.F.getD g .any=.bool b/\b ≠ want/\t.x=.any/\t.U=[]/\t.T=[])
def Ir (P:Program) (base:Nat) (all:Array Oper):List Oper->St->List Tr->St->Prop
 | [],s,[],s'=>s=s'
 | o::r,s,t::ts,s'=>t.o=o/\t.F=s.F/\t.M=s.M/\base<=s.M.length/\t.ok P base all/\Ir P base all r ⟨iO s.F o.dst t.x,kQ s.M t.U⟩ ts s'
 | _,_,_,_=>False
def so (m:Nat) (l:List Nat):Prop:=∀ i,m.testBit i=true->i ∈ l
theorem AR (accM:List Nat) (acc:List (List Nat)) (hacc:∀ j,so (accM.getD j 0) (acc.getD j [])):∀(es:List Edge) (m:Nat) (l:List Nat),so m l ->
  so (es.foldl (λm e=>cond (Region.binds .any e) (m ||| (1 <<< e.on ||| accM.getD e.on 0)) m) m) (l++(es.map λe=>cond (Region.binds .any e) (e.on::acc.getD e.on []) []).flatten)
 | [],m,l,h=>by simpa using h
 | e::es,m,l,h=>by
  rw[List.foldl_cons,aqk,aq9,<- aqe];refine AR accM acc hacc es _ _ ?_;intro i hi;cases hb:Region.binds .any e with
  | false=>
   rw[hb,ap_]at hi;exact aqK _ (h i hi)
  | true=>
   rw[hb,ap8,Nat.testBit_or,Nat.testBit_or]at hi;simp only[aqF]at hi;rcases hi with hi | hi | hi
   ·exact aqK _ (h i hi)
   ·refine aql _ ?_;rw[ap8];have:i=e.on:=by rw[Nat.one_shiftLeft,Nat.testBit_two_pow]at hi;have:=ap0 hi;exact this.symm
    subst this;exact List.mem_cons_self
   ·refine aql _ ?_;rw[ap8];exact aq0 _ (hacc e.on i hi)
theorem vn:∀(ops:List Oper) (accM:List Nat) (acc:List (List Nat)),accM.length=acc.length->(∀ j,so (accM.getD j 0) (acc.getD j [])) -> ∀ j,so ((KM ops accM).getD j 0) ((gG ops acc).getD j [])
 | [],accM,acc,_,h=>h
 | o::r,accM,acc,hl,h=>by
  simp only[KM,gG];refine vn r _ _ (by simp[hl]) λj=>?_
  have hnew:=AR accM acc h o.after.toList 0 [] (λi hi=>by simp at hi);rw[List.nil_append]at hnew;rw[List.getD_eq_getElem?_getD,List.getD_eq_getElem?_getD];by_cases hj:j<accM.length
  ·rw[List.getElem?_append_left hj,List.getElem?_append_left (by omega),<- List.getD_eq_getElem?_getD,<- List.getD_eq_getElem?_getD];exact h j
  ·by_cases hj':j=accM.length
   ·subst hj';rw[List.getElem?_append_right (ap1 _),aqV,hl,List.getElem?_append_right (ap1 _),aqV];exact hnew
   ·rw[List.getElem?_append_right (by omega),List.getElem?_append_right (by omega),List.getElem?_eq_none (by simp; omega),List.getElem?_eq_none (by simp; omega)];intro i hi;simp at hi
theorem nD {cloM:List Nat} {clo:List (List Nat)} (hc:∀ j,so (cloM.getD j 0) (clo.getD j [])):∀(rest:List Did) (i:Nat) (pre:List Did) (j:Nat),rK cloM i pre j rest=true->ju clo i pre j rest=true
 | [],_,_,_,_=>rfl
 | y::r,i,pre,j,h=>by
  simp only[rK]at h;obtain⟨h1,h2⟩:=and_true h;simp only[ju];rw[nD hc r i _ _ h2,Bool.and_true];refine List.all_eq_true.2 λp hp=>?_
  have:=List.all_eq_true.1 h1 p hp;simp only[aqF]at this ⊢;rcases this with h3 | h3
  ·exact .inl (List.contains_iff_mem.2 (hc j p.2 h3))
  ·exact .inr h3
theorem vh {cx:Cx} (hO:ek cx.P cx.O) {base:Nat} {all:Array Oper}:∀(l:List Oper) (s:St) (tr:List Did) (k:St->Bool),base<=s.M.length->q8 cx base all l s tr k=true ->
  ∃ ts s',Ir cx.P base all l s ts s'/\ju (gG all.toList []) 0 [] 0 (tr++ts.map (Tr.did all))=true/\lR 0 all.toList=true/\k s'=true
 | [],s,tr,k,hb,h=>by
  simp only[q8]at h;obtain⟨h1,h2⟩:=and_true h;obtain⟨h3,h4⟩:=and_true h1;have h3:=nD (vn all.toList [] [] rfl (λj i hi=>by simp at hi)) _ _ _ _ h3;exact⟨[],s,rfl,by simpa using h3,h4,h2⟩
 | o::r,s,tr,k,hb,h=>by
  have step:∀(x:V) (U:Upd) (T:List Nat),Tr.ok cx.P base all ⟨o,s.F,s.M,x,U,T⟩->q8 cx base all r ⟨iO s.F o.dst x,kQ s.M U⟩ (tr++[⟨o.dst,Oper.reads all o,U.map (·.1),T⟩]) k=true ->
    ∃ ts s',Ir cx.P base all (o::r) s ts s'/\ju (gG all.toList []) 0 [] 0 (tr++ts.map (Tr.did all))=true/\lR 0 all.toList=true/\k s'=true:=by
   intro x U T hok hr;obtain⟨_,u2,_⟩:=kR U s.M;obtain⟨ts,s',h1,h2,h3,h4⟩:=vh hO r _ _ k (ap2 hb u2) hr;refine⟨⟨o,s.F,s.M,x,U,T⟩::ts,s',⟨rfl,rfl,rfl,hb,hok,h1⟩,?_,h3,h4⟩;rw[aqe]at h2;exact h2
  simp only[q8]at h;split at h
  ·rename_i hg;obtain⟨x,U,T,hgood,hr⟩:=ot hO hb h;exact step x U T (.inl ⟨.inl hg,hgood⟩) hr
  ·rename_i j want hg;split at h
   ·rename_i t ht;split at h
    ·rename_i b hb0;cases e:(b==want)with
     | true=>
      obtain rfl:b=want:=by simpa using e
      rw[e,ap8,lb hb0]at h;obtain⟨x,U,T,hgood,hr⟩:=ot hO hb h;exact step x U T (.inl ⟨.inr ⟨j,b,t,hg,ht,hb0⟩,hgood⟩) hr
     | false=>
      have hbw:b = !want:=by cases b <;> cases want <;> simp at e ⊢
      rw[e,ap_,<- hbw,lb hb0]at h;refine step .any [] [] (.inr ⟨j,want,t,b,hg,ht,hb0,?_,rfl,rfl,rfl⟩) h;intro e'; rw[e']at e; simp at e
    ·cases h
   ·cases h
def lK (S:Nat->Bool):Nat->List Tr->(Nat->V)->Nat->V
 | _,[],f=>f
 | i,t::ts,f=>lK S (i+1) ts (if S i=true then λu=>if t.o.dst=some u/\u<t.F.length then t.x else f u else f)
def jl (S:Nat->Bool):Nat->List Tr->LK->LK
 | _,[],L=>L
 | i,t::ts,L=>jl S (i+1) ts (if S i=true then dc L t.U else L)
theorem yo:∀(U:Upd) (L L':LK) (m:Nat),m ∈ U.map (·.1)->dc L U m=dc L' U m
 | [],_,_,_,h=>by simp at h
 | (n,b)::r,L,L',m,h=>by
  by_cases h1:m ∈ r.map (·.1)
  ·exact yo r _ _ m h1
  ·simp only[aqk,aq1]at h;have e:m=n:=h.resolve_right h1;subst e;simp only[dc,iR r _ _ h1];simp[cp]
theorem hZ {S S':Nat->Bool} {u:Nat}:∀(ts:List Tr) (i:Nat) (f f':Nat->V),(∀(j:Nat) t,ts[j]? = some t->t.o.dst=some u->S (i+j)=S' (i+j))->f u=f' u->lK S i ts f u=lK S' i ts f' u
 | [],i,f,f',_,h=>h
 | t::ts,i,f,f',hag,h=>by
  simp only[lK];refine hZ ts (i+1) _ _ (λj t' hj hd=>by have:=hag (j+1) t' (by simpa using hj) hd; rwa [show i+(j+1)=i+1+j from by omega]at this) ?_;by_cases hd:t.o.dst=some u
  ·have:=hag 0 t (by simp) hd;rw[aqy]at this;rw[this];cases S' i <;> simp[h]
  ·cases S i <;> cases S' i <;> simp[hd,h]
theorem jU {S S':Nat->Bool} {m:Nat}:∀(ts:List Tr) (i:Nat) (L L':LK),(∀(j:Nat) t,ts[j]? = some t->m ∈ t.U.map (·.1)->S (i+j)=S' (i+j))->L m=L' m->jl S i ts L m=jl S' i ts L' m
 | [],i,f,f',_,h=>h
 | t::ts,i,L,L',hag,h=>by
  simp only[jl];refine jU ts (i+1) _ _ (λj t' hj hd=>by have:=hag (j+1) t' (by simpa using hj) hd; rwa [show i+(j+1)=i+1+j from by omega]at this) ?_;by_cases hd:m ∈ t.U.map (·.1)
  ·have:=hag 0 t (by simp) hd;rw[aqy]at this;rw[this];cases S' i
   ·simpa using h
   ·simpa using yo t.U L L' m hd
  ·cases S i <;> cases S' i <;> simp[iR _ _ _ hd,h]
theorem nW {S:Nat->Bool}:∀(ts:List Tr) (i:Nat) (f:Nat->V),(∀ j,i<=j->S j=false)->lK S i ts f=f
 | [],i,f,_=>rfl
 | t::ts,i,f,h=>by simp only[lK,h i (ap1 _),aqg,aqa];exact nW ts (i+1) f λj hj=>h j (by omega)
theorem nY {S:Nat->Bool}:∀(ts:List Tr) (i:Nat) (L:LK),(∀ j,i<=j->S j=false)->jl S i ts L=L
 | [],i,f,_=>rfl
 | t::ts,i,f,h=>by simp only[jl,h i (ap1 _),aqg,aqa];exact nY ts (i+1) f λj hj=>h j (by omega)
structure LexAt (P:Program) (base:Nat) (all:Array Oper) (l:List Oper) (s:St) (ts:List Tr) (i0 i:Nat) (t:Tr):Prop where
 op:l[i]? = some t.o
 len:t.F.length=s.F.length
 ok:t.ok P base all
 base:base<=t.M.length
 mono:s.M.length<=t.M.length
 keys:∀(j:Nat) t',j<i->ts[j]? = some t' -> ∀ m,m ∈ t'.U.map (·.1)->m<t.M.length
 fr:∀ u,t.F.getD u .any=lK (λj=>decide (j<i0+i)) i0 ts (λu=>s.F.getD u .any) u
 fr':∀ u,(iO t.F t.o.dst t.x).getD u .any=lK (λj=>decide (j<i0+i+1)) i0 ts (λu=>s.F.getD u .any) u
 lk:aE t.M=jl (λj=>decide (j<i0+i)) i0 ts (aE s.M)
 lk':dc (aE t.M) t.U=jl (λj=>decide (j<i0+i+1)) i0 ts (aE s.M)
structure Lex (P:Program) (base:Nat) (all:Array Oper) (l:List Oper) (s:St) (ts:List Tr) (s':St) (i0:Nat):Prop where
 len:l.length=ts.length
 each:∀(i:Nat) t,ts[i]? = some t->LexAt P base all l s ts i0 i t
 flen:s'.F.length=s.F.length
 mono:s.M.length<=s'.M.length
 keys:∀(j:Nat) t',ts[j]? = some t' -> ∀ m,m ∈ t'.U.map (·.1)->m<s'.M.length
 fr:∀ u,s'.F.getD u .any=lK (λ_=>true) i0 ts (λu=>s.F.getD u .any) u
 lk:aE s'.M=jl (λ_=>true) i0 ts (aE s.M)
theorem Ao {P:Program} {base:Nat} {all:Array Oper}:∀(l:List Oper) (s:St) (ts:List Tr) (s':St),Ir P base all l s ts s' -> ∀ i0,Lex P base all l s ts s' i0
 | [],s,[],s',h,i0=>by
  obtain rfl:s=s':=h;exact⟨rfl,by simp,rfl,ap1 _,by simp,λu=>rfl,rfl⟩
 | [],s,t::ts,s',h,i0=>h.elim
 | o::r,s,[],s',h,i0=>h.elim
 | o::r,s,t::ts,s',h,i0=>by
  obtain⟨h1,h2,h3,h4,h5,h6⟩:=h;subst h1;obtain⟨e1,e2,e3,e4,e5,e6,e7⟩:=Ao r _ ts s' h6 (i0+1);obtain⟨u1,u2,u3⟩:=kR t.U s.M;have hf:(λu=>(iO s.F t.o.dst t.x).getD u .any)=λu=>if t.o.dst=some u/\u<t.F.length then t.x else s.F.getD u .any:=by funext u; rw[jM,h2]
  have hl:aE (kQ s.M t.U)=dc (aE s.M) t.U:=u1;have hlen1:(iO s.F t.o.dst t.x).length=s.F.length:=vB _ _ _;refine⟨by simp[e1],?_,e3.trans hlen1,ap2 u2 e4,?_,?_,?_⟩
  ·intro i t' ht';cases i with
   | zero=>
    simp only[List.getElem?_cons_zero,ap5]at ht';subst ht';have hn:∀ j,i0+1<=j->(λj=>decide (j<i0+0+1)) j=false:=by intro j hj; simp; omega
    refine⟨by simp,by rw[h2],h5,by rw[h3]; exact h4,by rw[h3]; exact ap1 _,by intro j t' hj; omega,?_,?_,?_,?_⟩
    ·intro u; rw[nW _ _ _ (λj hj=>by simp; omega),h2]
    ·intro u;rw[lK,nW _ _ _ hn,if_pos (by simp),jM,h2]
    ·rw[nY _ _ _ (λj hj=>by simp; omega),h3]
    ·rw[jl,nY _ _ _ hn,if_pos (by simp),h3]
   | succ i=>
    have hti:ts[i]? = some t':=by simpa using ht'
    obtain⟨a1,a2,a3,a4,a5,a6,a7,a8,a9,a10⟩:=e2 i t' hti;have eN:∀ k,i0+1+i+k=i0+(i+1)+k:=by intro k; omega
    have eN0:i0+1+i=i0+(i+1):=by omega
    refine⟨by simpa using a1,a2.trans hlen1,a3,a4,ap2 u2 a5,?_,?_,?_,?_,?_⟩
    ·intro j tj hj htj m hm;cases j with
     | zero=>
      simp only[List.getElem?_cons_zero,ap5]at htj;subst htj;exact ap6 (u3 m hm) a5
     | succ j=>exact a6 j tj (by omega) (by simpa using htj) m hm
    ·intro u;rw[lK,if_pos (by simp),<- hf,<- eN0];exact a7 u
    ·intro u;rw[lK,if_pos (by simp; omega),<- hf,<- eN0];exact a8 u
    ·rw[jl,if_pos (by simp),<- hl,<- eN0];exact a9
    ·rw[jl,if_pos (by simp; omega),<- hl,<- eN0];exact a10
  ·intro j tj htj m hm;cases j with
   | zero=>
    simp only[List.getElem?_cons_zero,ap5]at htj;subst htj;exact ap6 (u3 m hm) e4
   | succ j=>exact e5 j tj (by simpa using htj) m hm
  ·intro u;rw[lK,if_pos rfl,<- hf];exact e6 u
  ·rw[jl,if_pos rfl,<- hl];exact e7
theorem kJ {clo:List (List Nat)}:∀(rest pre:List Did) (i0:Nat),ju clo i0 pre pre.length rest=true -> ∀(i j:Nat) x y,i<j->pre.length<=j->(pre++rest)[i]? = some x->(pre++rest)[j]? = some y->i ∈ clo.getD j []\/apart x y=true
 | [],pre,i0,_,i,j,x,y,_,hj,_,h2=>by
  rw[List.append_nil]at h2;have:=(List.getElem?_eq_some_iff.1 h2).1; omega
 | d::r,pre,i0,h,i,j,x,y,hij,hj,h1,h2=>by
  simp only[ju]at h;obtain⟨g1,g2⟩:=and_true h;by_cases e:j=pre.length
  ·subst e;rw[List.getElem?_append_right (ap1 _)]at h2;simp at h2; subst h2;rw[List.getElem?_append_left hij]at h1;have hmem:(x,i) ∈ pre.zipIdx:=by rw[List.mem_zipIdx_iff_getElem?]; exact h1
   have:=List.all_eq_true.1 g1 _ hmem;simpa using this
  ·have hlen:(pre++[d]).length=pre.length+1:=by simp
   have h':ju clo i0 (pre++[d]) (pre++[d]).length r=true:=by rw[hlen]; exact g2
   refine kJ r (pre++[d]) i0 h' i j x y hij (by rw[hlen]; omega) ?_ ?_
   ·rw[aqe]; exact h1
   ·rw[aqe]; exact h2
theorem m9 {S:Nat->Bool}:∀(rest done:List Oper) (acc:List (List Nat)),acc.length=done.length ->
  (∀ i o,(done++rest)[i]? = some o->S i=true -> ∀ e,e ∈ o.after->Region.binds .any e=true->S e.on=true) ->
  (∀(i:Nat) o,done[i]? = some o->(∀ e,e ∈ o.after->Region.binds .any e=true->S e.on=true) -> ∀ j,j ∈ acc.getD i []->S j=true) ->
  ∀(i:Nat) o,(done++rest)[i]? = some o->(∀ e,e ∈ o.after->Region.binds .any e=true->S e.on=true) -> ∀ j,j ∈ (gG rest acc).getD i []->S j=true
 | [],done,acc,_,_,h,i,o,ho,he,j,hj=>h i o (by simpa using ho) he j hj
 | o::r,done,acc,hlen,hcl,h,i,o',ho,he,j,hj=>by
  simp only[gG]at hj;refine m9 r (done++[o]) _ (by simp[hlen]) (by rw[aqe]; exact hcl) ?_ i o' (by rw[aqe]; exact ho) he j hj;intro i o'' ho'' he'' j hj;by_cases hi:i<done.length
  ·rw[List.getElem?_append_left hi]at ho'';rw[List.getD,List.getElem?_append_left (by omega)]at hj;exact h i o'' ho'' he'' j hj
  ·rw[List.getElem?_append_right (by omega)]at ho'';have hi0:i=done.length:=by have:=(List.getElem?_eq_some_iff.1 ho'').1; simp at this; omega
   subst hi0;simp at ho''; subst ho'';rw[List.getD,List.getElem?_append_right (by omega)]at hj;simp only[hlen,aqV,List.getElem?_cons_zero,aqs]at hj;obtain⟨lst,hl,hj⟩:=List.mem_flatten.1 hj;obtain⟨e,heo,rfl⟩:=List.mem_map.1 hl;have heo':e ∈ o.after:=Array.mem_def.2 heo;cases hb:Region.binds .any e with
   | false=>simp[hb]at hj
   | true=>
    simp only[hb,ap8,aq1]at hj;have hon:=he'' e heo' hb;rcases hj with rfl | hj
    ·exact hon
    ·-- what stands ahead of an operation that is done
     by_cases hlt:e.on<done.length
     ·have hd:done[e.on]? = some done[e.on]:=by simp[hlt]
      exact h e.on _ hd (hcl e.on _ (by rw[List.getElem?_append_left hlt]; exact hd) hon) j hj
     ·rw[List.getD,List.getElem?_eq_none (by omega)]at hj;simp at hj
theorem o_:∀(l:List Oper) (i0:Nat),lR i0 l=true -> ∀(i:Nat) o,l[i]? = some o -> ∀ e,e ∈ o.after->Region.binds .any e=true->e.on<i0+i
 | [],i0,_,i,o,h,_,_,_=>by simp at h
 | o::r,i0,h,i,o',ho,e,he,hb=>by
  simp only[lR]at h;obtain⟨g1,g2⟩:=and_true h;cases i with
  | zero=>
   simp at ho; subst ho;have:=List.all_eq_true.1 g1 e (Array.mem_def.1 he);simp[hb]at this;omega
  | succ i=>
   have:=o_ r (i0+1) g2 i o' (by simpa using ho) e he hb;omega
theorem kk {x y:Did} (h:apart x y=true):(∀ t,x.dst=some t->t ∉ y.reads/\y.dst ≠ some t)/\(∀ t,y.dst=some t->t ∉ x.reads)/\(∀ m,m ∈ x.writes->m ∉ y.touch/\m ∉ y.writes)/\(∀ m,m ∈ y.writes->m ∉ x.touch):=by
 unfold apart at h;obtain⟨h1,h2⟩:=and_true h;obtain⟨h3,h4⟩:=and_true h2;simp only[ara,Bool.or_eq_false_iff]at h4;obtain⟨h5,h6,h7⟩:=h4;have meet:∀{a b:List Nat},meets a b=false -> ∀ m,m ∈ a->m ∉ b:=by intro a b hm m ha hb;unfold meets at hm;have:=List.any_eq_false.1 hm m ha;simp[hb]at this
 refine⟨λt ht=>?_,λt ht=>?_,λm hm=>⟨meet h5 m hm,meet h6 m hm⟩,λm hm hx=>meet h7 m hx hm⟩
 ·rw[ht]at h1;simp at h1;exact⟨h1.1,h1.2⟩
 ·rw[ht]at h3;simpa using h3
def cnt (S:Nat->Bool):Nat->Nat
 | 0=>0
 | n+1=>cnt S n+(if S n=true then 0 else 1)
theorem CY {S:Nat->Bool}:∀ n,cnt S n=0 -> ∀ i,i<n->S i=true
 | 0,_,i,h=>by omega
 | n+1,h,i,hi=>by
  simp only[cnt]at h;by_cases e:i=n
  ·subst e;by_cases hs:S i=true
   ·exact hs
   ·simp[hs]at h
  ·exact CY n (by omega) i (by omega)
theorem Aq {S S':Nat->Bool}:∀ n,(∀ i,i<n->S i=S' i)->cnt S n=cnt S' n
 | 0,_=>rfl
 | n+1,h=>by simp only[cnt,Aq n (λi hi=>h i (by omega)),h n (by omega)]
theorem Kx {S S':Nat->Bool} {i:Nat} (hi:S i=false) (hi':S' i=true) (ho:∀ j,j ≠ i->S' j=S j):∀ n,i<n->cnt S' n+1=cnt S n
 | 0,h=>by omega
 | n+1,h=>by
  simp only[cnt];by_cases e:i=n
  ·subst e;rw[Aq i (S:=S') (S':=S) (λj hj=>ho j (by omega))];simp[hi,hi']
  ·have:=Kx hi hi' ho n (by omega);rw[ho n (λh=>e h.symm)];omega
theorem yq {all:Array Oper} {tmps:Array Value} {j g:Nat} {b:Bool} (hg:dU all j=some g) (h:tmps.getD g undef=.bool b):yielded all tmps j=some b:=by
 unfold dU at hg;unfold yielded;rw[hg,arf];rw[Array.getD_eq_getD_getElem?]at h;cases e:tmps[g]? with
 | none=>rw[e]at h; simp[undef]at h
 | some v=>rw[e]at h; simp at h; rw[h]
theorem OT {all:Array Oper} {o:Oper} {t:Nat} (h:Operand.tmp t ∈ o.op.operands):t ∈ Oper.reads all o:=by unfold Oper.reads X5;refine aqK _ (List.mem_filterMap.2 ⟨.tmp t,Array.mem_def.1 h,rfl⟩)
theorem vu {all:Array Oper} {o:Oper} {j g:Nat} {want:Bool} (h:o.guard=some (j,want)) (hg:dU all j=some g):g ∈ Oper.reads all o:=by unfold Oper.reads;refine aql _ ?_;rw[h]; simp[hg]
structure Inv (G:Gh) (s:St) (ts:List Tr) (ρ0:Rho) (S:Nat->Bool) (a:Act) (w:World) (ρ:Rho):Prop where
 sim:SimW G w ρ (jl S 0 ts (aE s.M))
 fr:∀ u,Rep (okc G ρ (jl S 0 ts (aE s.M))) w ρ (lK S 0 ts (λu=>s.F.getD u .any) u) (a.tmps.getD u undef)
 defers:a.defers=[]
 size:a.tmps.size=s.F.length
 dom:∀ m,s.M.length<=m->(∀(j:Nat) t,ts[j]? = some t->S j=true->m ∉ t.U.map (·.1))->ρ m=none
 rho:∀ m q,ρ0 m=some q->ρ m=some q
theorem RK {P:Program} {base:Nat} {all:Array Oper} {s s':St} {ts:List Tr} (hlex:Lex P base all all.toList s ts s' 0) (hord:ju (gG all.toList []) 0 [] 0 (ts.map (Tr.did all))=true) (hedge:lR 0 all.toList=true) (hb':base<=s'.M.length)
  {G:Gh} (hG:G.base=base) {ρ0:Rho} {Q:Exit->Act->World->Prop} (hQ:∀ w' ρ' a',Sim G w' ρ' s' a'->(∀ n q,n<base->ρ0 n=some q->ρ' n=some q)->Q .normal a' w') :
  ∀(fuel:Nat) (listed:Array Bool) (a:Act) (w:World) (ρ:Rho),listed.size=all.size->(∀(i:Nat) o,all[i]? = some o->listed.getD i false=true -> ∀ e,e ∈ o.after->Region.binds .any e=true->listed.getD e.on false=true) ->
   Inv G s ts ρ0 (λi=>listed.getD i false) a w ρ->cnt (λi=>listed.getD i false) all.size<=fuel->wpAny P .any all Q fuel listed a w:=by
 have hlen:all.size=ts.length:=by rw[<- hlex.len]; simp
 have hget:∀(i:Nat) o,all[i]? = some o↔all.toList[i]? = some o:=by intro i o; simp
 have fin:∀(listed:Array Bool) (a:Act) (w:World) (ρ:Rho),listed.size=all.size->Inv G s ts ρ0 (λi=>listed.getD i false) a w ρ->Region.ready .any all listed=[]->Q .normal a w:=by
  intro listed a w ρ hls hinv hready;have hall:∀ i,i<all.size->listed.getD i false=true:=by
   intro i;induction i using Nat.strongRecOn with
   | _ i ih=>
    intro hi;by_cases hs:listed.getD i false=true
    ·exact hs
    ·exfalso;have hmem:i ∈ Region.ready .any all listed:=by
      unfold Region.ready;refine List.mem_filter.2 ⟨List.mem_range.2 hi,?_⟩;have h1:listed.getD i true=false:=by rw[Array.getD_eq_getD_getElem?,Array.getElem?_eq_getElem (by omega)]at hs ⊢;simp at hs ⊢; exact hs
      rw[h1];simp only[Bool.not_false,Bool.true_and];rw[Array.getElem?_eq_getElem hi];simp only[aqh,aqs];rw[Array.all_eq_true'];intro e he;cases hbn:Region.binds .any e with
      | false=>rfl
      | true=>
       have:=o_ _ 0 hedge i all[i] (by simp[hi]) e he hbn;simp only[Bool.not_true,Bool.false_or];exact ih e.on (by omega) (by omega)
     rw[hready]at hmem; cases hmem
  have hS:∀(j:Nat) t,ts[j]? = some t->(λi=>listed.getD i false) (0+j)=(λ_=>true) (0+j):=by intro j t hj;have:=(List.getElem?_eq_some_iff.1 hj).1;simp only[aqb];exact hall j (by omega)
  have hL:jl (λi=>listed.getD i false) 0 ts (aE s.M)=aE s'.M:=by rw[hlex.lk]; funext m;exact jU ts 0 _ _ (λj t hj _=>hS j t hj) rfl
  refine hQ w ρ a ⟨by rw[<- hL]; exact hinv.sim,λn hn=>?_,hinv.defers,λu=>?_,by rw[hinv.size,hlex.flen],by rw[hG]; exact hb'⟩ λn q _ h=>hinv.rho n q h
  ·refine hinv.dom n (ap2 hlex.mono hn) λj t hj _ hm=>?_
   have:=hlex.keys j t hj n hm; omega
  ·have he:=hZ (S:=λi=>listed.getD i false) (S':=λ_=>true) (u:=u) ts 0 (λu=>s.F.getD u .any) (λu=>s.F.getD u .any) (λj t hj _=>hS j t hj) rfl;rw[<- hL,hlex.fr u,<- he];exact hinv.fr u
 intro fuel;induction fuel with
 | zero=>
  intro listed a w ρ hls hcl hinv hcnt;have hall:=CY all.size (by omega) (S:=λi=>listed.getD i false);have hr:Region.ready .any all listed=[]:=by
   unfold Region.ready;rw[List.filter_eq_nil_iff];intro i hi;have hi:=List.mem_range.1 hi;have h1:listed.getD i false=true:=hall i hi;have h2:listed.getD i true=true:=by rw[Array.getD_eq_getD_getElem?,Array.getElem?_eq_getElem (by omega)]at h1 ⊢;simpa using h1
   simp[h2]
  exact⟨hr,fin listed a w ρ hls hinv hr⟩
 | succ fuel ih=>
  intro listed a w ρ hls hcl hinv hcnt;refine⟨fin listed a w ρ hls hinv,λi hi=>?_⟩;unfold Region.ready at hi;obtain⟨hi1,hi2⟩:=List.mem_filter.1 hi;have hin:=List.mem_range.1 hi1;obtain⟨hi3,hi4⟩:=and_true hi2;have hSi:listed.getD i false=false:=by rw[Array.getD_eq_getD_getElem?,Array.getElem?_eq_getElem (by omega)]at hi3 ⊢;simpa using hi3
  have hti:ts[i]? = some ts[i]:=by simp[show i<ts.length by omega]
  generalize ts[i]=t at hti;obtain⟨x1,x2,x3,x4,x5,x6,x7,x8,x9,x10⟩:=hlex.each i t hti;simp only[aqb]at x7 x8 x9 x10;have hoi:all[i]? = some t.o:=(hget i t.o).2 x1;rw[hoi]at hi4;simp only[aqh,aqs,Array.all_eq_true']at hi4;have hedges:∀ e,e ∈ t.o.after->Region.binds .any e=true->listed.getD e.on false=true:=by intro e he hbn;have:=hi4 e he;simpa [hbn]using this
  have hclo:∀(i:Nat) o,all.toList[i]? = some o->(∀ e,e ∈ o.after->Region.binds .any e=true->listed.getD e.on false=true) -> ∀ j,j ∈ (gG all.toList []).getD i []->listed.getD j false=true:=
   λi o ho he j hj=>m9 (S:=λi=>listed.getD i false) all.toList [] [] rfl (λi o ho=>hcl i o ((hget i o).2 (by simpa using ho))) (by intro i o h; simp at h) i o (by simpa using ho) he j hj
  have meetS:∀(j:Nat) tj,ts[j]? = some tj->j ≠ i->(¬(j<i->apart (tj.did all) (t.did all)=true)\/¬(i<j->apart (t.did all) (tj.did all)=true))->listed.getD j false=decide (j<i):=by
   intro j tj hj hne hno;obtain⟨y1,_⟩:=hlex.each j tj hj;rcases aq6 hne with hlt | hgt
   ·have hna:¬ apart (tj.did all) (t.did all)=true:=by
     rcases hno with h | h
     ·exact λh'=>h λ_=>h'
     ·exact absurd (λh2:i<j=>by omega) h
    have:=(kJ _ [] 0 hord j i _ _ hlt (Nat.zero_le _) (by simp[hj]) (by simp[hti])).resolve_right hna;rw[hclo i t.o x1 hedges j this]; simp[hlt]
   ·have hna:¬ apart (t.did all) (tj.did all)=true:=by
     rcases hno with h | h
     ·exact absurd (λh2:j<i=>by omega) h
     ·exact λh'=>h λ_=>h'
    have hcj:=(kJ _ [] 0 hord i j _ _ hgt (Nat.zero_le _) (by simp[hti]) (by simp[hj])).resolve_right hna;cases hs:listed.getD j false with
    | false=>simp; omega
    | true=>
     have:=hclo j tj.o y1 (hcl j tj.o ((hget j tj.o).2 y1) hs) i hcj;rw[hSi]at this; cases this
  have meetF:∀(j:Nat) tj u,ts[j]? = some tj->j ≠ i->tj.o.dst=some u->(u ∈ Oper.reads all t.o\/t.o.dst=some u)->listed.getD j false=decide (j<i):=by
   intro j tj u hj hne hd hu;refine meetS j tj hj hne ?_;rcases aq6 hne with hlt | hgt
   ·left; intro h;have:=(kk (h hlt)).1 u hd;rcases hu with hu | hu
    ·exact this.1 hu
    ·exact this.2 hu
   ·right; intro h;have hap:=kk (h hgt);rcases hu with hu | hu
    ·exact hap.2.1 u hd hu
    ·exact(hap.1 u hu).2 hd
  have meetL:∀(j:Nat) tj m,ts[j]? = some tj->j ≠ i->m ∈ tj.U.map (·.1)->(m ∈ t.T\/m ∈ t.U.map (·.1))->listed.getD j false=decide (j<i):=by
   intro j tj m hj hne hd hu;refine meetS j tj hj hne ?_;rcases aq6 hne with hlt | hgt
   ·left; intro h;have:=(kk (h hlt)).2.2.1 m hd;rcases hu with hu | hu
    ·exact this.1 hu
    ·exact this.2 hu
   ·right; intro h;have hap:=kk (h hgt);rcases hu with hu | hu
    ·exact hap.2.2.2 m hd hu
    ·exact(hap.2.2.1 m hu).2 hd
  have hreads:∀ u,u ∈ Oper.reads all t.o->lK (λi=>listed.getD i false) 0 ts (λu=>s.F.getD u .any) u=t.F.getD u .any:=by
   intro u hu;rw[x7 u];refine hZ ts 0 _ _ (λj tj hj hd=>?_) rfl;simp only[aqb];by_cases e:j=i
   ·subst e; rw[hSi]; simp
   ·exact meetF j tj u hj e hd (.inl hu)
  have htouch:∀ m,m ∈ t.T->jl (λi=>listed.getD i false) 0 ts (aE s.M) m=aE t.M m:=by
   intro m hm;rw[x9];refine jU ts 0 _ _ (λj tj hj hd=>?_) rfl;simp only[aqb];by_cases e:j=i
   ·subst e; rw[hSi]; simp
   ·exact meetL j tj m hj e hd (.inl hm)
  have hsz:i<listed.size:=by omega
  have hS':∀ j,(listed.setIfInBounds i true).getD j false=if j=i then true else listed.getD j false:=by
   intro j;simp only[Array.getD_eq_getD_getElem?,Array.getElem?_setIfInBounds];by_cases e:i=j
   ·subst e; simp[hsz]
   ·simp[e,show ¬ j=i from λh=>e h.symm]
  have hLs:jl (λj=>(listed.setIfInBounds i true).getD j false) 0 ts (aE s.M)=dc (jl (λi=>listed.getD i false) 0 ts (aE s.M)) t.U:=by
   funext m;by_cases hm:m ∈ t.U.map (·.1)
   ·rw[yo t.U _ (aE t.M) m hm,x10];refine jU ts 0 _ _ (λj tj hj hd=>?_) rfl;simp only[aqb,hS'];by_cases e:j=i
    ·subst e; simp
    ·rw[if_neg e,meetL j tj m hj e hd (.inr hm)];simp; omega
   ·rw[iR _ _ _ hm];refine jU ts 0 _ _ (λj tj hj hd=>?_) rfl;simp only[aqb,hS'];by_cases e:j=i
    ·subst e; rw[hti]at hj; cases hj; exact absurd hd hm
    ·rw[if_neg e]
  have hFs:∀ u,lK (λj=>(listed.setIfInBounds i true).getD j false) 0 ts (λu=>s.F.getD u .any) u=if t.o.dst=some u/\u<s.F.length then t.x else lK (λi=>listed.getD i false) 0 ts (λu=>s.F.getD u .any) u:=by
   intro u;by_cases hu:t.o.dst=some u
   ·have h1:lK (λj=>(listed.setIfInBounds i true).getD j false) 0 ts (λu=>s.F.getD u .any) u=(iO t.F t.o.dst t.x).getD u .any:=by
     rw[x8 u];refine hZ ts 0 _ _ (λj tj hj hd=>?_) rfl;simp only[aqb,hS'];by_cases e:j=i
     ·subst e; simp
     ·rw[if_neg e,meetF j tj u hj e hd (.inr hu)];simp; omega
    rw[h1,jM,x2];by_cases hlt:u<s.F.length
    ·rw[if_pos ⟨hu,hlt⟩,if_pos ⟨hu,hlt⟩]
    ·rw[if_neg (λh=>hlt h.2),if_neg (λh=>hlt h.2)];rw[x7 u];refine hZ ts 0 _ _ (λj tj hj hd=>?_) rfl;simp only[aqb];by_cases e:j=i
     ·subst e; rw[hSi]; simp
     ·exact(meetF j tj u hj e hd (.inr hu)).symm
   ·rw[if_neg (λh=>hu h.1)];refine hZ ts 0 _ _ (λj tj hj hd=>?_) rfl;simp only[aqb,hS'];by_cases e:j=i
    ·subst e; rw[hti]at hj; cases hj; exact absurd hd hu
    ·rw[if_neg e]
  have hcl':∀(j:Nat) o,all[j]? = some o->(listed.setIfInBounds i true).getD j false=true -> ∀ e,e ∈ o.after->Region.binds .any e=true->(listed.setIfInBounds i true).getD e.on false=true:=by
   intro j o ho hj e he hbn;rw[hS']at hj ⊢;split
   ·rfl
   ·by_cases e1:j=i
    ·subst e1; rw[hoi]at ho; cases ho; exact hedges e he hbn
    ·rw[if_neg e1]at hj; exact hcl j o ho hj e he hbn
  have hcnt':cnt (λj=>(listed.setIfInBounds i true).getD j false) all.size<=fuel:=by have:=Kx (S:=λj=>listed.getD j false) (S':=λj=>(listed.setIfInBounds i true).getD j false) (i:=i) hSi (by simp only[hS']; simp) (λj hj=>by simp only[hS',if_neg hj]) all.size hin;omega
  have next:∀ v w' ρ',SimW G w' ρ' (dc (jl (λi=>listed.getD i false) 0 ts (aE s.M)) t.U)->Rep (okc G ρ' (dc (jl (λi=>listed.getD i false) 0 ts (aE s.M)) t.U)) w' ρ' t.x v ->
    Keeps (okc G ρ (jl (λi=>listed.getD i false) 0 ts (aE s.M))) w ρ (okc G ρ' (dc (jl (λi=>listed.getD i false) 0 ts (aE s.M)) t.U)) w' ρ'->(∀ n,ρ' n ≠ ρ n->n ∈ t.U.map (·.1)) ->
    wpAny P .any all Q fuel (listed.setIfInBounds i true) (a.put t.o.dst v) w':=by
   intro v w' ρ' h1 h2 h3 h4;refine ih _ _ w' ρ' (by simpa using hls) hcl' ⟨by rw[hLs]; exact h1,λu=>?_,by rw[xQ]; exact hinv.defers,by rw[DI]; exact hinv.size,λm hm hno=>?_,λm q hq=>h3.rho m q (hinv.rho m q hq)⟩ hcnt'
   ·rw[hLs,hFs u,DH,hinv.size];split
    ·exact h2
    ·exact(hinv.fr u).mono h3
   ·by_cases e:ρ' m=ρ m
    ·rw[e];refine hinv.dom m hm λj tj hj hs=>hno j tj hj ?_
     rw[hS']; split
     ·rfl
     ·exact hs
    ·exact absurd (h4 m e) (hno i t hti (by rw[hS']; simp))
  unfold wpOp;rw[hoi];simp only;rcases x3 with⟨hgd,hgood⟩ | ⟨j,want,g,b,g1,g2,g3,g4,g5,g6,g7⟩
  ·have hw:Region.wanted t.o (yielded all a.tmps)=true:=by
    rcases hgd with hg | ⟨j,want,g,g1,g2,g3⟩
    ·simp[Region.wanted,hg]
    ·have hr:=hinv.fr g;rw[hreads g (vu g1 g2),g3]at hr;simp[Region.wanted,g1,yq g2 hr.bool_inv]
   rw[if_pos hw];refine .inl (hgood G w ρ _ a t.o rfl hG hinv.sim (λy hy=>?_) htouch (λn b hn hM=>?_) _ _ λv w' ρ' h1 h2 h3 h4=>next v w' ρ' h1 h2 h3 h4)
   ·cases y with
    | tmp u=>
     have hr:=hinv.fr u;rw[hreads u (OT hy)]at hr;exact hr
    | const v=>exact pW v
    | global g=>exact .val _
    | func f=>exact .fn f [] [] rfl (by simp)
   ·have hnk:n ∈ t.U.map (·.1):=List.mem_map.2 ⟨(n,b),hn,rfl⟩;refine⟨hinv.dom n (by omega) λj tj hj hs hm=>?_,by omega⟩;by_cases e:j=i
    ·subst e; rw[hSi]at hs; cases hs
    ·have h1:=meetL j tj n hj e hm (.inr hnk);rw[hs]at h1;have hlt:j<i:=by simpa using h1.symm
     have:=x6 j tj hlt hj n hm;omega
  ·have hr:=hinv.fr g;rw[hreads g (vu g1 g2),g3]at hr;have hw:¬ Region.wanted t.o (yielded all a.tmps)=true:=by simp[Region.wanted,g1,yq g2 hr.bool_inv,g4]
   rw[if_neg hw];have h0:=next undef w ρ (by rw[g6]; exact hinv.sim) (by rw[g5]; exact .any _) (by rw[g6]; exact Keeps.refl _ _ _) (λn hn=>absurd rfl hn);exact h0
theorem Da {cx:Cx} (hO:ek cx.P cx.O) {base id:Nat} {all:Array Oper} {s:St} {k:St->Bool} (hb:base<=s.M.length) (hmix:cx.P.follows .mixedOrders=true) (h:q8 cx base all all.toList s [] k=true) :
  ∃ s',k s'=true/\base<=s'.M.length /\ ∀(G:Gh) (w:World) (ρ:Rho) (a:Act),G.base=base->Sim G w ρ s a -> ∀(Q:Exit->Act->World->Prop),
   (∀ w' ρ' a',Sim G w' ρ' s' a'->(∀ n q,n<base->ρ n=some q->ρ' n=some q)->Q .normal a' w')->(Code.region id all true).wp cx.P Q a w:=by
 obtain⟨ts,s',h1,h2,h3,h4⟩:=vh hO all.toList s [] k hb h;have hlex:=Ao _ _ _ _ h1 0;have hb':base<=s'.M.length:=ap2 hb hlex.mono;refine⟨s',h4,hb',λG w ρ a hG hs Q hQ=>wp_region_any hmix ?_⟩;obtain⟨d1,d2⟩:=hs.sim.drew;have hz:∀ i,(Array.replicate all.size false).getD i false=false:=by intro i;simp only[Array.getD_eq_getD_getElem?,Array.getElem?_replicate];split <;> rfl
 have hL0:jl (λi=>(Array.replicate all.size false).getD i false) 0 ts (aE s.M)=aE s.M:=nY _ _ _ λj _=>hz j
 have hF0:lK (λi=>(Array.replicate all.size false).getD i false) 0 ts (λu=>s.F.getD u .any)=λu=>s.F.getD u .any:=nW _ _ _ λj _=>hz j
 refine RK hlex (by simpa using h2) h3 hb' hG hQ all.size _ a w.drew ρ (by simp) ?_ ⟨by rw[hL0]; exact d1,λu=>?_,hs.defers,hs.size,λm hm _=>hs.dom m hm,λ_ _ h=>h⟩ ?_
 ·intro i o _ hi; rw[hz]at hi; cases hi
 ·rw[hL0,hF0]; exact(hs.fr u).mono d2
 ·have:∀ n S,cnt S n<=n:=by
   intro n S;induction n with
   | zero=>exact ap1 _
   | succ n ih=>simp only[cnt]; split <;> omega
  exact this _ _
def ep (base:Nat) (L:List Nat) (ρ:Rho):Rho:=λn=>if n<base then ρ n else match L[n - base]? with
 | some m=>ρ m
 | none=>none
theorem nF {base:Nat} {L:List Nat} {ρ:Rho}:∀ n m q,renum base L n=some m->ρ n=some q->ep base L ρ m=some q:=by
 intro n m q hm hq;unfold renum at hm;by_cases h:n<base
 ·simp[h]at hm; subst hm; simp[ep,h,hq]
 ·simp only[h,decide_false,ap_]at hm;obtain⟨i,hi,rfl⟩:=Option.map_eq_some_iff.1 hm;have:=xp hi;simp[ep,show ¬ base+i<base by omega,this,hq]
theorem BR {base:Nat} {L:List Nat} {M:bh} (hb:base<=M.length) (n:Nat) :
  aE (eH base L M) n=if n<base then(aE M n).map (Blk.ren (renum base L))else match L[n - base]? with
   | some m=>(aE M m).map (Blk.ren (renum base L))
   | none=>none:=by
 have hl:((M.take base).map (·.map (Blk.ren (renum base L)))).length=base:=by simp; omega
 unfold eH;by_cases h:n<base
 ·rw[if_pos h];unfold aE;rw[List.getElem?_append_left (by rw[hl]; exact h),List.getElem?_map,List.getElem?_take,if_pos h];cases M[n]? with
  | none=>rfl
  | some b=>cases b <;> rfl
 ·rw[if_neg h];unfold aE;rw[List.getElem?_append_right (by rw[hl]; omega),hl,List.getElem?_map];cases L[n - base]? with
  | none=>rfl
  | some m=>
   have key:∀(x:Option Blk),(match(some x:Option (Option Blk))with | some (some b)=>some b | _=>none)=x:=by intro x; cases x <;> rfl
   exact key _
theorem gL {base:Nat} {L:List Nat} {M:bh} (hb:base<=M.length):(eH base L M).length=base+L.length:=by unfold eH; simp; omega
theorem SimW.renum {G:Gh} {w:World} {ρ:Rho} {M:bh} (h:SimW G w ρ (aE M)) (hb:G.base<=M.length) {L:List Nat} (hn:kI L=true) (hL:∀ n,n ∈ L->G.base<=n) :
  SimW G w (ep G.base L ρ) (aE (eH G.base L M))/\Keeps (okc G ρ (aE M)) w ρ (okc G (ep G.base L ρ) (aE (eH G.base L M))) w ρ:=by
 have hold:∀ n bl,aE (eH G.base L M) n=some bl -> ∃ m b0,aE M m=some b0/\bl=b0.ren (Go.Mach.renum G.base L)/\ep G.base L ρ n=ρ m/\((n<G.base/\m=n)\/(G.base<=n/\L[n - G.base]? = some m)):=by
  intro n bl hnb;rw[BR hb]at hnb;by_cases h1:n<G.base
  ·rw[if_pos h1]at hnb;obtain⟨b0,hb0,rfl⟩:=Option.map_eq_some_iff.1 hnb;exact⟨n,b0,hb0,rfl,by simp[ep,h1],.inl ⟨h1,rfl⟩⟩
  ·rw[if_neg h1]at hnb;split at hnb
   ·rename_i m hm;obtain⟨b0,hb0,rfl⟩:=Option.map_eq_some_iff.1 hnb;exact⟨m,b0,hb0,rfl,by simp[ep,h1,hm],.inr ⟨by omega,hm⟩⟩
   ·cases hnb
 have hk:Keeps (okc G ρ (aE M)) w ρ (okc G (ep G.base L ρ) (aE (eH G.base L M))) w ρ:=by refine⟨λ_ _ h=>h,λb _ ho=>⟨⟨ho.1,λn bl p hnb hp=>?_⟩,rfl⟩,ap1 _⟩;obtain⟨m,b0,h1,_,h3,_⟩:=hold n bl hnb;rw[h3]at hp;exact ho.2 m b0 p h1 hp
 refine⟨⟨?_,?_,?_,h.size,h.os,h.tape,h.output,?_,h.tab,?_⟩,hk⟩
 ·intro n bl hnb;obtain⟨m,b0,h1,rfl,h3,_⟩:=hold n bl hnb;obtain⟨q,hq,hbb⟩:=h.blks m b0 h1;refine⟨q,by rw[h3]; exact hq,?_⟩;cases q with
  | none=>show(b0.c.ren _).size=0; rw[Body.ren_size]; exact hbb
  | some p=>
   obtain⟨cur,c1,c2,c3,c4,c5,c6⟩:=hbb;exact⟨cur,c1,c2,by show _=(b0.c.ren _).size; rw[Body.ren_size]; exact c3,c4,c5,BodyRep.ren nF (c6.mono hk)⟩
 ·intro n n' bn bn' p q hn1 hn2 hp hq e;obtain⟨m,b0,h1,_,h3,h4⟩:=hold n bn hn1;obtain⟨m',b1,k1,_,k3,k4⟩:=hold n' bn' hn2;rw[h3]at hp; rw[k3]at hq;have:=h.inj m m' b0 b1 p q h1 k1 hp hq e;subst this;rcases h4 with⟨a1,a2⟩ | ⟨a1,a2⟩ <;> rcases k4 with⟨c1,c2⟩ | ⟨c1,c2⟩
  ·omega
  ·have:=hL m (List.mem_of_getElem? c2); omega
  ·have:=hL m (List.mem_of_getElem? a2); omega
  ·have:=mf hn _ _ m a2 c2; omega
 ·intro n p hn' hp;unfold ep at hp;rw[if_neg (by omega)]at hp;split at hp
  ·rename_i m hm;exact h.own m p (hL m (List.mem_of_getElem? hm)) hp
  ·cases hp
 ·intro b hb' hno;refine h.old b hb' λn p hn' hp=>hno n p hn' ?_
  simp[ep,hn',hp]
 ·intro n p hp;unfold ep at hp;split at hp
  ·exact h.high n p hp
  ·split at hp
   ·rename_i m hm;exact h.high m p hp
   ·cases hp
theorem vp {base:Nat} {M:bh} {r:List Nat}:∀ n,n ∈ gI base M r->base<=n:=by intro n hn;unfold gI at hn;simpa using (List.mem_filter.1 hn).2
theorem xv (keep:List Nat) (f:Nat->Option Nat):∀(F:List V) (i t:Nat),(pa keep f i F).getD t .any=cond (keep.contains (i+t)) ((F.getD t .any).ren f) .any
 | [],i,t=>by simp[pa]; cases keep.contains (i+t) <;> simp[V.ren]
 | v::r,i,0=>by simp[pa]
 | v::r,i,t+1=>by have:=xv keep f r (i+1) t;simp only[pa,List.getD_cons_succ];rw[this,show i+1+t=i+(t+1) from by omega]
theorem rA (keep:List Nat) (f:Nat->Option Nat):∀(F:List V) (i:Nat),(pa keep f i F).length=F.length
 | [],_=>rfl
 | v::r,i=>by simp[pa,rA keep f r]
theorem SimW.rebody {G:Gh} {w:World} {ρ:Rho} {L:LK} (h:SimW G w ρ L) (n:Nat) (blk:Blk) (hn:L n=some blk) (c':Body) (hcs:c'.size=blk.c.size)
  (hr:∀ cur,BodyRep (okc G ρ L) w ρ blk.c cur->BodyRep (okc G ρ L) w ρ c' cur) :
  SimW G w ρ (cp L n (some { blk with c:=c' }))/\Keeps (okc G ρ L) w ρ (okc G ρ (cp L n (some { blk with c:=c' }))) w ρ:=by
 have hlive:∀ m,(cp L n (some { blk with c:=c' }) m).isSome=true->(L m).isSome=true:=by
  intro m; unfold cp; by_cases e:m=n
  ·subst e; simp[hn]
  ·simp[e]
 have hk:Keeps (okc G ρ L) w ρ (okc G ρ (cp L n (some { blk with c:=c' }))) w ρ:=by refine⟨λ_ _ h=>h,λb _ ho=>⟨⟨ho.1,λm bl q hm hq=>?_⟩,rfl⟩,ap1 _⟩;obtain⟨bl',hb'⟩:=Option.isSome_iff_exists.1 (hlive m (by simp[hm]));exact ho.2 m bl' q hb' hq
 refine⟨⟨?_,?_,h.own,h.size,h.os,h.tape,h.output,h.old,h.tab,h.high⟩,hk⟩
 ·intro m bl hm;unfold cp at hm;by_cases e:m=n
  ·subst e;simp only[aqB,ap5]at hm;subst hm;obtain⟨q,hq,hb⟩:=h.blks m blk hn;refine⟨q,hq,?_⟩;cases q with
   | none=>exact hcs.trans hb
   | some p=>obtain⟨c2,g1,g2,g3,g4,g5,g6⟩:=hb; exact⟨c2,g1,g2,g3.trans hcs.symm,g4,g5,(hr _ g6).mono hk⟩
  ·simp only[e,aqa]at hm;obtain⟨q,hq,hb⟩:=h.blks m bl hm;refine⟨q,hq,?_⟩;cases q with
   | none=>exact hb
   | some p=>obtain⟨c2,g1,g2,g3,g4,g5,g6⟩:=hb; exact⟨c2,g1,g2,g3,g4,g5,g6.mono hk⟩
 ·intro m m' bn bm q q' hm hm' hq hq' e;obtain⟨b1,hb1⟩:=Option.isSome_iff_exists.1 (hlive m (by simp[hm]));obtain⟨b2,hb2⟩:=Option.isSome_iff_exists.1 (hlive m' (by simp[hm']));exact h.inj m m' b1 b2 q q' hb1 hb2 hq hq' e
theorem ol {M:bh} {b:Option Blk}:aE (M++[b])=cp (aE M) M.length b:=by have:=pS M M.length b;unfold vt at this;simpa using this
theorem AP {M:bh} {n:Nat} {b:Option Blk} (hn:n<M.length):aE (M.set n b)=cp (aE M) n b:=by have:=pS M n b;unfold vt at this;simpa [hn]using this
theorem Sim.push {G:Gh} {w:World} {ρ:Rho} {s:St} {a:Act} (h:Sim G w ρ s a) (blk:Blk) (h0:blk.c.size=0) :
  Sim G w (bP ρ s.M.length none) ⟨s.F,s.M++[some blk]⟩ a/\Keeps (okc G ρ (aE s.M)) w ρ (okc G (bP ρ s.M.length none) (aE (s.M++[some blk]))) w (bP ρ s.M.length none):=by
 obtain⟨h1,h2⟩:=h.sim.virt s.M.length (h.dom _ (ap1 _)) blk h0;rw[ol];refine⟨⟨by rw[ol]; exact h1,λn hn=>?_,h.defers,λu=>?_,h.size,?_⟩,h2⟩
 ·simp at hn;have:n ≠ s.M.length:=by omega
  simp[bP,this,h.dom n (by omega)]
 ·show Rep (okc G _ (aE (s.M++[some blk]))) w _ _ _;rw[ol]; exact(h.fr u).mono h2
 ·have:=h.base; show _<=(s.M++[some blk]).length; simp; omega
theorem da {P:Program}:∀(vs:List (Nat × Option Nat × Nat)) (s:St) (G:Gh) (w:World) (ρ:Rho) (a:Act),Sim G w ρ s a->s.M.length<=(eQ P vs s).M.length /\ ∃ ρ',Sim G w ρ' (eQ P vs s) a /\ ∀ n q,ρ n=some q->ρ' n=some q
 | [],s,G,w,ρ,a,h=>⟨ap1 _,ρ,h,λ_ _ h=>h⟩
 | (t,none,e)::r,s,G,w,ρ,a,h=>by
  simp only[eQ];split
  ·rename_i sz b hF hsz hz;have hb0:b.size=0:=by
    cases hzc:bX P e with
    | none=>simp only[gX,hzc]at hz; split at hz <;> simp_all
    | some z=>exact kM hzc hz
   obtain⟨h1,h2⟩:=h.push ⟨e,sz,b⟩ hb0;have hsim:Sim G w (bP ρ s.M.length none) ⟨s.F.set t (.slw s.M.length),s.M++[some ⟨e,sz,b⟩]⟩ a:=by
    refine⟨h1.sim,h1.dom,h.defers,λu=>?_,by simp[h.size],h1.base⟩;show Rep (okc G _ (aE (s.M++[some ⟨e,sz,b⟩]))) w _ ((s.F.set t (.slw s.M.length)).getD u .any) _;have hs:=jM s.F (some t) (.slw s.M.length) u;simp only[iO]at hs;rw[hs];split
    ·rename_i hu;obtain⟨hu1,hu2⟩:=hu;cases hu1;have hr:=h.fr t;rw[hF]at hr;rw[hr.nil_inv];exact .slv _ (by simp[bP])
    ·exact(h.fr u).mono h2
   obtain⟨g1,ρ',g2,g3⟩:=da r _ G w _ a hsim;refine⟨ap2 (by simp) g1,ρ',g2,λn q hq=>g3 n q (h2.rho n q hq)⟩
  ·exact da r s G w ρ a h
 | (t,some i,e)::r,s,G,w,ρ,a,h=>by
  simp only[eQ];split
  ·rename_i n o sz z hF hsz hz;split
   ·rename_i e0 s0 cs hlk;split
    ·rename_i hcell;have hb0:z.size=0:=by
      cases hzc:bX P e with
      | none=>simp only[gX,hzc]at hz; split at hz <;> simp_all
      | some z=>exact kM hzc hz
     obtain⟨h1,h2⟩:=h.push ⟨e,sz,z⟩ hb0;have hn:n<s.M.length:=BQ hlk;have hlk':aE (s.M++[some ⟨e,sz,z⟩]) n=some ⟨e0,s0,.cells cs⟩:=by rw[ol]; unfold cp; rw[if_neg (by omega)]; exact hlk
     obtain⟨k1,k2⟩:=h1.sim.rebody n _ hlk' (.cells (cs.set (o+i) (.slw s.M.length))) (by simp[Body.size]) (by
      intro cur hb j x hx;have hx:(cs.set (o+i) (.slw s.M.length))[j]? = some x:=hx;by_cases e:j=o+i
      ·subst e;have hlt:o+i<cs.length:=by
        rcases aqQ (o+i) cs.length with h | h
        ·exact h
        ·rw[List.getElem?_eq_none h]at hcell; cases hcell
       rw[List.getElem?_set_self hlt]at hx;cases hx;obtain⟨v,g1,g2,g3⟩:=hb (o+i) .nil hcell;refine⟨v,g1,g2,?_⟩;rw[g3.nil_inv];exact .slv _ (by simp[bP])
      ·rw[List.getElem?_set_ne (Ne.symm e)]at hx;exact hb j x hx)
     have hM:s.M.set n (some ⟨e0,s0,.cells (cs.set (o+i) (.slw s.M.length))⟩)++[(some ⟨e,sz,z⟩:Option Blk)]=(s.M++[(some ⟨e,sz,z⟩:Option Blk)]).set n (some ⟨e0,s0,.cells (cs.set (o+i) (.slw s.M.length))⟩):=by rw[List.set_append_left _ _ hn]
     have hlM:aE (s.M.set n (some ⟨e0,s0,.cells (cs.set (o+i) (.slw s.M.length))⟩)++[(some ⟨e,sz,z⟩:Option Blk)])=cp (aE (s.M++[(some ⟨e,sz,z⟩:Option Blk)])) n (some ⟨e0,s0,.cells (cs.set (o+i) (.slw s.M.length))⟩):=by rw[hM,AP (by simp; omega)]
     have hsim:Sim G w (bP ρ s.M.length none) ⟨s.F,s.M.set n (some ⟨e0,s0,.cells (cs.set (o+i) (.slw s.M.length))⟩)++[some ⟨e,sz,z⟩]⟩ a:=by refine⟨by rw[hlM]; exact k1,λm hm=>h1.dom m (by simpa using hm),h.defers,λu=>?_,h.size,by have:=h1.base; simpa using this⟩;show Rep (okc G _ (aE (s.M.set n _++[some ⟨e,sz,z⟩]))) w _ _ _;rw[hlM];exact(h1.fr u).mono k2
     obtain⟨g1,ρ',g2,g3⟩:=da r _ G w _ a hsim;refine⟨ap2 (by simp) g1,ρ',g2,λn q hq=>g3 n q (h2.rho n q hq)⟩
    ·exact da r s G w ρ a h
   ·exact da r s G w ρ a h
  ·rename_i n hF;split
   ·rename_i b hlk;cases hz1:b.sz==1 with
    | false=>rw[ap_]; exact da r s G w ρ a h
    | true=>
     rw[ap8];have hz1:b.sz=1:=by simpa using hz1
     have hsim:Sim G w ρ ⟨s.F.set t (.sl n 0 b.c.size),s.M⟩ a:=by
      refine⟨h.sim,h.dom,h.defers,λu=>?_,by simp[h.size],h.base⟩;have hs:=jM s.F (some t) (.sl n 0 b.c.size) u;simp only[iO]at hs;rw[hs];split
      ·rename_i hu;obtain⟨hu1,hu2⟩:=hu;cases hu1;have hr:=h.fr t;rw[hF]at hr;obtain⟨q,hq,hb⟩:=h.sim.blks n b hlk;generalize a.tmps.getD t undef=v at hr;cases hr with
       | slw _ p hp=>
        rw[hq]at hp; cases hp;obtain⟨cur,c1,c2,c3,c4,c5,c6⟩:=hb;rw[hz1,aqU]at c3;rw[<- c3];exact .sl n 0 p.len p.cap 0 p hq c4 (.inl rfl)
       | slv _ hp=>
        rw[hq]at hp; cases hp;have hb:b.c.size=0:=hb;rw[hb];exact .slvp n 0 hq
      ·exact h.fr u
     exact da r _ G w ρ a hsim
   ·exact da r s G w ρ a h
  ·exact da r s G w ρ a h
theorem km:∀(ds:List (Nat × Nat × Option IntKind)) (M:bh),(BA ds M).length=M.length
 | [],_=>rfl
 | (n,i,k)::r,M=>by
  simp only[BA];split
  ·split
   ·rw[km r]; simp
   ·exact km r M
  ·exact km r M
theorem lP {G:Gh} {w:World} {ρ:Rho} {a:Act}:∀(ds:List (Nat × Nat × Option IntKind)) (s:St),Sim G w ρ s a->Sim G w ρ ⟨s.F,BA ds s.M⟩ a
 | [],s,h=>h
 | (n,i,k)::r,s,h=>by
  simp only[BA];split
  ·rename_i e0 s0 cs hlk;split
   ·rename_i hcell;have hzr:∀ ok,Rep ok w ρ (Ga k) (.slice none 0 0):=by
     intro ok;cases k with
     | none=>exact .rofn
     | some k=>exact .roin k
    generalize Ga k=z at hzr ⊢;have hn:n<s.M.length:=BQ hlk;obtain⟨k1,k2⟩:=h.sim.rebody n _ hlk (.cells (cs.set i z)) (by simp[Body.size]) (by
     intro cur hb j x hx;have hx:(cs.set i z)[j]? = some x:=hx;by_cases e:j=i
     ·subst e;have hlt:j<cs.length:=by
       rcases aqQ j cs.length with h | h
       ·exact h
       ·rw[List.getElem?_eq_none h]at hcell; cases hcell
      rw[List.getElem?_set_self hlt]at hx;cases hx;obtain⟨v,g1,g2,g3⟩:=hb j .nil hcell;refine⟨v,g1,g2,?_⟩;rw[g3.nil_inv];exact hzr _
     ·rw[List.getElem?_set_ne (Ne.symm e)]at hx;exact hb j x hx)
    have hlM:aE (s.M.set n (some ⟨e0,s0,.cells (cs.set i z)⟩))=cp (aE s.M) n (some ⟨e0,s0,.cells (cs.set i z)⟩):=by rw[AP hn]
    have hsim:Sim G w ρ ⟨s.F,s.M.set n (some ⟨e0,s0,.cells (cs.set i z)⟩)⟩ a:=by refine⟨by rw[hlM]; exact k1,λm hm=>h.dom m (by simpa using hm),h.defers,λu=>?_,h.size,by have:=h.base; simpa using this⟩;show Rep (okc G _ (aE (s.M.set n _))) w _ _ _;rw[hlM];exact(h.fr u).mono k2
    exact lP r _ hsim
   ·exact lP r s h
  ·exact lP r s h
theorem iM {P:Program} (an:Option Nrm) (s:St) (base:Nat) (hb:base<=s.M.length):base<=(nB P base an s).M.length /\ ∀(G:Gh) (w:World) (ρ:Rho) (a:Act),G.base=base->Sim G w ρ s a -> ∃ ρ',Sim G w ρ' (nB P base an s) a /\ ∀ n q,n<base->ρ n=some q->ρ' n=some q:=by
 cases an with
 | none=>exact⟨hb,λG w ρ a _ h=>⟨ρ,h,λ_ _ _ h=>h⟩⟩
 | some an=>
  have hvl:s.M.length<=(eQ P an.virt s).M.length:=by
   have:∀(vs:List (Nat × Option Nat × Nat)) (s:St),s.M.length<=(eQ P vs s).M.length:=by
    intro vs;induction vs with
    | nil=>intro s; exact ap1 _
    | cons x r ih=>
     intro s;obtain⟨t,x,e⟩:=x;cases x with
     | none=>
      simp only[eQ];split
      ·exact ap2 (by simp) (ih _)
      ·exact ih s
     | some i=>
      simp only[eQ];split
      ·split
       ·split
        ·exact ap2 (by simp) (ih _)
        ·exact ih s
       ·exact ih s
      ·split
       ·rename_i b _;cases b.sz==1
        ·exact ih s
        ·exact ih ⟨s.F.set t (.sl _ 0 b.c.size),s.M⟩
       ·exact ih s
      ·exact ih s
   exact this _ _
  simp only[nB];generalize hL:gI base (eQ P an.virt s).M (xz an.keep 0 (eQ P an.virt s).F)=L;have hLge:∀ n,n ∈ L->base<=n:=λn hn=>vp n (by rw[hL]; exact hn)
  cases hnd:kI L with
  | false=>
   simp only[ap_];refine⟨ap2 hb hvl,λG w ρ a _ h=>?_⟩;obtain⟨_,ρ',h1,h2⟩:=da an.virt s G w ρ a h;exact⟨ρ',h1,λn q _ hq=>h2 n q hq⟩
  | true=>
   simp only[ap8];refine⟨by show base<=(BA an.den _).length; rw[km,gL (ap2 hb hvl)]; omega,λG w ρ a hG h=>?_⟩;obtain⟨_,ρ',h1,h2⟩:=da an.virt s G w ρ a h;subst hG;obtain⟨h3,h4⟩:=h1.sim.renum h1.base hnd hLge;refine⟨ep G.base L ρ',lP an.den ⟨pa an.keep (renum G.base L) 0 (eQ P an.virt s).F,eH G.base L (eQ P an.virt s).M⟩ ⟨h3,λn hn=>?_,h1.defers,λt=>?_,by rw[rA]; exact h1.size,by show G.base<=(eH G.base L _).length; rw[gL h1.base]; omega⟩,λn q hn hq=>by simp[ep,hn,h2 n q hq]⟩
   ·have hn:(eH G.base L (eQ P an.virt s).M).length<=n:=hn;rw[gL h1.base]at hn;unfold ep;rw[if_neg (by omega),List.getElem?_eq_none (by omega)]
   ·show Rep _ w _ ((pa an.keep (renum G.base L) 0 (eQ P an.virt s).F).getD t .any) _;rw[xv];cases an.keep.contains (0+t)with
    | false=>exact .any _
    | true=>exact k9 nF ((h1.fr t).mono h4)
def K.of (κ:K):Exit->St->Bool
 | .normal,s=>κ.nrm s
 | .exit i,s=>κ.ext i s
 | .ret,s=>κ.ret s
 | _,_=>false
def ahL (cx:Cx) (base:Nat) (c:Code) (s:St) (e:Exit) (s':St):Prop:=
 ∀(G:Gh) (w:World) (ρ:Rho) (a:Act),G.base=base->Sim G w ρ s a -> ∀(Q:Exit->Act->World->Prop),
  (∀ w' ρ' a',Sim G w' ρ' s' a'->(∀ n q,n<base->ρ n=some q->ρ' n=some q)->Q e a' w')->c.wp cx.P Q a w
theorem dj {cx:Cx} (hO:ek cx.P cx.O) {base:Nat} {an:Nat->Option Ann}:∀(c:Code) (bid:Nat) (s:St) (κ:K),fQ cx base an c bid->base<=s.M.length->db cx base an c bid s κ=true ->
  ∃ e s',κ.of e s'=true/\base<=s'.M.length/\ahL cx base c s e s'
 | .skip,bid,s,κ,hk,hb,h=>⟨.normal,s,h,hb,λG w ρ a _ hs Q hQ=>wp_skip (hQ w ρ a hs λ_ _ _ h=>h)⟩
 | .region id ops false,bid,s,κ,hk,hb,h=>by
  simp only[db]at h;obtain⟨s',h1,h2,h3⟩:=mm hO ops.toList s κ.nrm hb h;exact⟨.normal,s',h1,h2,λG w ρ a hG hs Q hQ=>wp_region_list (h3 G w ρ a hG hs Q hQ)⟩
 | .region id ops true,bid,s,κ,hk,hb,h=>by
  simp only[db]at h;obtain⟨g1,g2⟩:=and_true h;obtain⟨s',h1,h2,h3⟩:=Da (id:=id) hO hb g1 g2;exact⟨.normal,s',h1,h2,h3⟩
 | .seq c d,bid,s,κ,hk,hb,h=>by
  simp only[db]at h;obtain⟨e,s1,h1,h2,h3⟩:=dj hO c bid s _ hk.1 hb h;cases e with
  | normal=>
   obtain⟨e2,s2,k1,k2,k3⟩:=dj hO d bid s1 κ hk.2 h2 h1;exact⟨e2,s2,k1,k2,λG w ρ a hG hs Q hQ=>wp_seq (h3 G w ρ a hG hs _ λw' ρ' a' hs' hr=>k3 G w' ρ' a' hG hs' Q λw'' ρ'' a'' hs'' hr'=>hQ w'' ρ'' a'' hs'' λn q hn hq=>hr' n q hn (hr n q hn hq))⟩
  | exit i=>exact⟨.exit i,s1,h1,h2,λG w ρ a hG hs Q hQ=>wp_seq (h3 G w ρ a hG hs _ λw' ρ' a' hs' hr=>hQ w' ρ' a' hs' hr)⟩
  | ret=>exact⟨.ret,s1,h1,h2,λG w ρ a hG hs Q hQ=>wp_seq (h3 G w ρ a hG hs _ λw' ρ' a' hs' hr=>hQ w' ρ' a' hs' hr)⟩
  | goto l=>simp[K.of]at h1
  | panic p=>simp[K.of]at h1
  | outgrown=>simp[K.of]at h1
 | .cond (.tmp t) c d,bid,s,κ,hk,hb,h=>by
  simp only[db]at h;split at h
  ·rename_i b hF;have hev:∀{G:Gh} {w:World} {ρ:Rho} {a:Act},Sim G w ρ s a->a.eval (.tmp t)=.bool b:=by intro G w ρ a hs;have hr:=hs.fr t;rw[hF]at hr;exact hr.bool_inv
   cases b with
   | true=>
    rw[ap8,lb hF]at h;obtain⟨e,s1,h1,h2,h3⟩:=dj hO c bid s κ hk.1 hb h;exact⟨e,s1,h1,h2,λG w ρ a hG hs Q hQ=>wp_cond_true (hev hs) (h3 G w ρ a hG hs Q hQ)⟩
   | false=>
    rw[ap_,lb hF]at h;obtain⟨e,s1,h1,h2,h3⟩:=dj hO d bid s κ hk.2 hb h;exact⟨e,s1,h1,h2,λG w ρ a hG hs Q hQ=>wp_cond_false (hev hs) (h3 G w ρ a hG hs Q hQ)⟩
  ·cases h
 | .block id c,bid,s,κ,hk,hb,h=>by
  simp only[db]at h;obtain⟨e,s1,h1,h2,h3⟩:=dj hO c id s _ hk hb h;cases e with
  | normal=>exact⟨.normal,s1,h1,h2,λG w ρ a hG hs Q hQ=>wp_block (h3 G w ρ a hG hs _ λw' ρ' a' hs' hr=>hQ w' ρ' a' hs' hr)⟩
  | exit i=>
   simp only[K.of]at h1;cases e:(i==id)with
   | true=>
    rw[e,ap8]at h1;obtain rfl:i=id:=by simpa using e
    exact⟨.normal,s1,h1,h2,λG w ρ a hG hs Q hQ=>wp_block (h3 G w ρ a hG hs _ λw' ρ' a' hs' hr=>by simp only[Exit.inBlock,aqB]; exact hQ w' ρ' a' hs' hr)⟩
   | false=>
    rw[e,ap_]at h1;have hne:¬ i=id:=by simpa using e
    exact⟨.exit i,s1,h1,h2,λG w ρ a hG hs Q hQ=>wp_block (h3 G w ρ a hG hs _ λw' ρ' a' hs' hr=>by simp only[Exit.inBlock,hne,aqa]; exact hQ w' ρ' a' hs' hr)⟩
  | ret=>exact⟨.ret,s1,h1,h2,λG w ρ a hG hs Q hQ=>wp_block (h3 G w ρ a hG hs _ λw' ρ' a' hs' hr=>hQ w' ρ' a' hs' hr)⟩
  | goto l=>simp[K.of]at h1
  | panic p=>simp[K.of]at h1
  | outgrown=>simp[K.of]at h1
 | .loop c,bid,s,κ,hk,hb,h=>by
  obtain⟨n1,n2⟩:=iM (P:=cx.P) (pF (an bid)) s base hb;have h:vK cx.N (λs k=>db cx base an c bid s (uH cx.P base (an bid) κ k)) (nB cx.P base (pF (an bid)) s)=true:=by
   simp only[db]at h;split at h
   ·rename_i hk' hkk;exact hk.2 hk' hkk _ κ h
   ·exact h
  have main:∀(N:Nat) (s:St),base<=s.M.length->vK N (λs k=>db cx base an c bid s (uH cx.P base (an bid) κ k)) s=true ->
    ∃ e s',κ.of e s'=true/\base<=s'.M.length /\ ∀(G:Gh) (w:World) (ρ:Rho) (a:Act),G.base=base->Sim G w ρ s a -> ∀(Q:Exit->Act->World->Prop),
     (∀ w' ρ' a',Sim G w' ρ' s' a'->(∀ n q,n<base->ρ n=some q->ρ' n=some q)->Q e a' w')->Code.rounds cx.P c Q N a w:=by
   intro N;induction N with
   | zero=>intro s _ h; simp[vK]at h
   | succ N ih=>
    intro s hb h;simp only[vK]at h;obtain⟨e,s1,h1,h2,h3⟩:=dj hO c bid _ _ hk.1 hb h;have go:∀(e':Exit) (s':St),(∀(G:Gh) (w:World) (ρ:Rho) (a:Act),G.base=base->Sim G w ρ s1 a -> ∀(Q:Exit->Act->World->Prop),
      (∀ w' ρ' a',Sim G w' ρ' s' a'->(∀ n q,n<base->ρ n=some q->ρ' n=some q)->Q e' a' w')->Exit.then (Code.rounds cx.P c Q N) Q e a w) ->
      ∀(G:Gh) (w:World) (ρ:Rho) (a:Act),G.base=base->Sim G w ρ s a -> ∀(Q:Exit->Act->World->Prop),
     (∀ w' ρ' a',Sim G w' ρ' s' a'->(∀ n q,n<base->ρ n=some q->ρ' n=some q)->Q e' a' w')->Code.rounds cx.P c Q (N+1) a w:=by
     intro e' s' hgo G w ρ a hG hs Q hQ;rw[rounds_succ];exact h3 G w ρ a hG hs _ λw' ρ' a' hs' hr=>hgo G w' ρ' a' hG hs' Q λw'' ρ'' a'' hs'' hr'=>hQ w'' ρ'' a'' hs'' λn q hn hq=>hr' n q hn (hr n q hn hq)
    cases e with
    | normal=>
     have h1:vK N _ (nB cx.P base (pF (an bid)) s1)=true:=h1;obtain⟨m1,m2⟩:=iM (P:=cx.P) (pF (an bid)) s1 base h2;obtain⟨e2,s2,k1,k2,k3⟩:=ih _ m1 h1;refine⟨e2,s2,k1,k2,go e2 s2 λG w ρ a hG hs Q hQ=>?_⟩;obtain⟨ρ1,hs1,hr1⟩:=m2 G w ρ a hG hs;exact k3 G w ρ1 a hG hs1 Q λw' ρ' a' hs' hr=>hQ w' ρ' a' hs' λn q hn hq=>hr n q hn (hr1 n q hn hq)
    | exit i=>
     obtain⟨m1,m2⟩:=iM (P:=cx.P) (RM (an bid) i) s1 base h2;refine⟨.exit i,_,h1,m1,go (.exit i) _ λG w ρ a hG hs Q hQ=>?_⟩;obtain⟨ρ1,hs1,hr1⟩:=m2 G w ρ a hG hs;exact hQ w ρ1 a hs1 hr1
    | ret=>
     obtain⟨m1,m2⟩:=iM (P:=cx.P) (acI (an bid)) s1 base h2;refine⟨.ret,_,h1,m1,go .ret _ λG w ρ a hG hs Q hQ=>?_⟩;obtain⟨ρ1,hs1,hr1⟩:=m2 G w ρ a hG hs;exact hQ w ρ1 a hs1 hr1
    | goto l=>simp[K.of]at h1
    | panic p=>simp[K.of]at h1
    | outgrown=>simp[K.of]at h1
  obtain⟨e,s',h1,h2,h3⟩:=main cx.N _ n1 h;refine⟨e,s',h1,h2,λG w ρ a hG hs Q hQ=>wp_loop_rounds cx.N ?_⟩;obtain⟨ρ1,hs1,hr1⟩:=n2 G w ρ a hG hs;exact h3 G w ρ1 a hG hs1 Q λw' ρ' a' hs' hr=>hQ w' ρ' a' hs' λn q hn hq=>hr n q hn (hr1 n q hn hq)
 | .exit id,bid,s,κ,hk,hb,h=>⟨.exit id,s,h,hb,λG w ρ a _ hs Q hQ=>wp_exit (hQ w ρ a hs λ_ _ _ h=>h)⟩
 | .ret,bid,s,κ,hk,hb,h=>⟨.ret,s,h,hb,λG w ρ a _ hs Q hQ=>wp_ret (hQ w ρ a hs λ_ _ _ h=>h)⟩
 | .cond (.const v) c d,bid,s,κ,hk,hb,h=>by
  cases v with
  | bool b=>
   simp only[db]at h;cases b with
   | true=>
    rw[ap8]at h;obtain⟨e,s1,h1,h2,h3⟩:=dj hO c bid s κ hk.1 hb h;exact⟨e,s1,h1,h2,λG w ρ a hG hs Q hQ=>wp_cond_true rfl (h3 G w ρ a hG hs Q hQ)⟩
   | false=>
    rw[ap_]at h;obtain⟨e,s1,h1,h2,h3⟩:=dj hO d bid s κ hk.2 hb h;exact⟨e,s1,h1,h2,λG w ρ a hG hs Q hQ=>wp_cond_false rfl (h3 G w ρ a hG hs Q hQ)⟩
  | _=>simp[db]at h
 | .cond (.global _) _ _,_,_,_,_,_,h=>by simp[db]at h
 | .cond (.func _) _ _,_,_,_,_,_,h=>by simp[db]at h
 | .rangeFunc ..,_,_,_,_,_,h=>by simp[db]at h
 | .scope _,_,_,_,_,_,h=>by simp[db]at h
 | .label _,_,_,_,_,_,h=>by simp[db]at h
 | .goto _,_,_,_,_,_,h=>by simp[db]at h
 | .refuse _,_,_,_,_,_,h=>by simp[db]at h
def pX (tmps:Array Value) (r:ResultVar):Sem Value:=match r with
 | .tmp t=>pure (tmps.getD t undef)
 | .cell a t=>do loadVar t (<- asAddr (tmps.getD a undef))
theorem Gf {P:Program} {s:St} {r:ResultVar} {k:V->Bool} (h:ag0 P s r k=true) :
  ∃ x,k x=true /\ ∀(G:Gh) (w:World) (ρ:Rho) (a:Act),Sim G w ρ s a -> ∃ v,(pX a.tmps r).run P w=.ok v w/\Rep (okc G ρ (aE s.M)) w ρ x v:=by
 cases r with
 | tmp t=>exact⟨_,h,λG w ρ a hs=>⟨_,rfl,hs.fr t⟩⟩
 | cell t ty=>
  simp only[ag0]at h;split at h
  ·rename_i ag z n p hag hz hF;split at h
   ·rename_i b hM;have main:∀ y,((ag=true /\ ∃ zs,y=.agg zs/\zs.length=z /\ ∀(i:Nat) c,zs[i]? = some c->b.c.at (p+i)=some c)\/(ag=false/\b.c.at p=some y)) -> ∀(G:Gh) (w:World) (ρ:Rho) (a:Act),Sim G w ρ s a ->
      ∃ v,(pX a.tmps (.cell t ty)).run P w=.ok v w/\Rep (okc G ρ (aE s.M)) w ρ y v:=by
     intro y hy G w ρ a hs;have hx:=hs.fr t; rw[hF]at hx;obtain⟨pl,hp,hv⟩:=hx.ptr_inv;obtain⟨cur,c1,c2,c3,c4,c5,c6⟩:=hs.sim.place hM hp;have key:∃ v,(Instr.loadAt ty (.pointer (some ⟨pl.b,p,none⟩))).run P w=.ok v w/\Rep (okc G ρ (aE s.M)) w ρ y v:=by
      refine nw hag hz ?_;rcases hy with⟨h1,zs,h2,h3,h4⟩ | ⟨h1,h2⟩
      ·refine .inl ⟨h1,zs,h2,h3,λi c hc=>?_⟩;obtain⟨v,g1,g2,g3⟩:=c6 _ _ (h4 i c hc);exact⟨v,cU c1 g1,g2,g3⟩
      ·obtain⟨v,g1,g2,g3⟩:=c6 _ _ h2;exact .inr ⟨h1,v,cU c1 g1,g3⟩
     obtain⟨v,h1,h2⟩:=key;refine⟨v,?_,h2⟩;simp only[Instr.loadAt,Instr.sureAddr,Sem.run_bind,Sem.run_pure,Result.andThen_ok]at h1;simp only[pX,hv,asAddr,Sem.run_bind,Sem.run_pure,Result.andThen_ok,h1]
    cases ag
    ·simp only[ap_]at h;obtain⟨y,hy,hk⟩:=Body.get_sound h;exact⟨y,hk,main y (.inr ⟨rfl,hy⟩)⟩
    ·simp only[ap8]at h;obtain⟨zs,hl,hy,hk⟩:=Body.part_sound h;exact⟨_,hk,main _ (.inl ⟨rfl,zs,rfl,hl,hy⟩)⟩
   ·cases h
  ·cases h
theorem vv {P:Program} {s:St}:∀(rs:List ResultVar) (k:List V->Bool),KY P s rs k=true ->
  ∃ xs,k xs=true /\ ∀(G:Gh) (w:World) (ρ:Rho) (a:Act),Sim G w ρ s a -> ∃ vs,(rs.mapM (pX a.tmps)).run P w=.ok vs w/\RepL (okc G ρ (aE s.M)) w ρ xs vs
 | [],k,h=>⟨[],h,λG w ρ a _=>⟨[],by simp,rfl,by simp⟩⟩
 | r::rs,k,h=>by
  simp only[KY]at h;obtain⟨x,h1,h2⟩:=Gf h;obtain⟨xs,h3,h4⟩:=vv rs _ h1;refine⟨x::xs,h3,λG w ρ a hs=>?_⟩;obtain⟨v,g1,g2⟩:=h2 G w ρ a hs;obtain⟨vs,g3,g4⟩:=h4 G w ρ a hs;refine⟨v::vs,by simp[List.mapM_cons,g1,g3],by simp[g4.1],λi c u hc hu=>?_⟩;cases i with
  | zero=>simp at hc hu; subst hc; subst hu; exact g2
  | succ i=>exact g4.2 i c u (by simpa using hc) (by simpa using hu)
theorem uZ:∀{M:bh} {H:List Blk},nZ M=some H->M=H.map some
 | [],H,h=>by simp[nZ]at h; subst h; rfl
 | some b::r,H,h=>by
  simp only[nZ,aqc]at h;obtain⟨H',h1,rfl⟩:=h;simp[uZ h1]
 | none::_,_,h=>by simp[nZ]at h
theorem w5 {P:Program} {base:Nat} {fn:Func} {s:St} {k:V->List Blk->Bool} (hb:base<=s.M.length) (h:Fc P base fn.results.toList s k=true) :
  ∃ r H',k r H'=true /\ ∀(G:Gh) (w:World) (ρ:Rho) (a:Act),G.base=base->Sim G w ρ s a -> ∃ v ρ',(results fn a.tmps).run P w=.ok v w/\(∀ n q,n<base->ρ n=some q->ρ' n=some q)/\(∀ n,H'.length<=n->ρ' n=none) /\
   SimW G w ρ' (eX H')/\Rep (okc G ρ' (eX H')) w ρ' r v:=by
 unfold Fc at h;obtain⟨xs,h1,h2⟩:=vv _ _ h;obtain⟨hnd,h3⟩:=and_true h1;split at h3
 ·rename_i H hH;have hM:=uZ hH;have hfin:∀(G:Gh) (w:World) (ρ:Rho) (a:Act),G.base=base->Sim G w ρ s a -> ∃ vs ρ',(fn.results.mapM (pX a.tmps)).run P w=.ok vs.toArray w/\(∀ n q,n<base->ρ n=some q->ρ' n=some q)/\(∀ n,H.length<=n->ρ' n=none) /\
    SimW G w ρ' (eX H)/\RepL (okc G ρ' (eX H)) w ρ' (mP (renum base (gI base s.M (kq xs))) xs) vs:=by
   intro G w ρ a hG hs;obtain⟨vs,g1,g2⟩:=h2 G w ρ a hs;subst hG;obtain⟨g3,g4⟩:=hs.sim.renum hs.base hnd (λn hn=>vp n hn);have hl:aE (eH G.base (gI G.base s.M (kq xs)) s.M)=eX H:=by rw[hM]; rfl
   rw[hl]at g3 g4;have hlen:H.length=G.base+(gI G.base s.M (kq xs)).length:=by rw[<- gL (M:=s.M) hs.base,hM]; simp
   refine⟨vs,ep G.base (gI G.base s.M (kq xs)) ρ,?_,λn q hn hq=>by simp[ep,hn,hq],λn hn=>?_,g3,RepL.ren nF (g2.mono g4)⟩
   ·rw[Array.mapM_eq_mapM_toList];simp[g1]
   ·unfold ep;rw[if_neg (by omega),List.getElem?_eq_none (by omega)]
  have hres:∀(tmps:Array Value) (w:World) (vs:Array Value),(fn.results.mapM (pX tmps)).run P w=.ok vs w->(results fn tmps).run P w=.ok (if h:vs.size=1 then vs[0]else .tuple vs) w:=by
   intro tmps w vs hr;have:results fn tmps=(fn.results.mapM (pX tmps)) >>= λvs=>pure (if h:vs.size=1 then vs[0]else .tuple vs):=rfl
   rw[this,Sem.run_bind,hr];rfl
  split at h3
  ·rename_i v hv;refine⟨v,H,h3,λG w ρ a hG hs=>?_⟩;obtain⟨vs,ρ',g1,g2,g3,g4,g5⟩:=hfin G w ρ a hG hs;rw[hv]at g5;have hl:=g5.1
   match vs,hl with
   | [u],_=>
    refine⟨u,ρ',?_,g2,g3,g4,g5.2 0 v u (by simp) (by simp)⟩;rw[hres _ _ _ g1]; rfl
  ·rename_i hne;refine⟨_,H,h3,λG w ρ a hG hs=>?_⟩;obtain⟨vs,ρ',g1,g2,g3,g4,g5⟩:=hfin G w ρ a hG hs;refine⟨.tuple vs.toArray,ρ',?_,g2,g3,g4,.tup _ _ g5.1 g5.2⟩;rw[hres _ _ _ g1,dif_neg];intro h1;have hl:=g5.1;have:vs.length=1:=by simpa using h1
   rw[this]at hl;obtain⟨y,hy⟩:=List.length_eq_one_iff.1 hl;exact hne y hy
 ·cases h3
def OkC (P:Program) (f:FuncId) (args:List V) (H:List Blk) (r:V) (H':List Blk):Prop:=
 ∀(w:World) (ρ:Rho) (ok:Nat->Prop) (vs:List Value),SimW (gh w H.length ok) w ρ (eX H)->(∀ n,H.length<=n->ρ n=none)->RepL (okc (gh w H.length ok) ρ (eX H)) w ρ args vs ->
  Calls P f vs.toArray w λe' w'=>∃ v,e'=.returned v /\ ∃ ρ',(∀ n,n<H.length->ρ' n=ρ n)/\(∀ n,H'.length<=n->ρ' n=none)/\SimW (gh w H.length ok) w' ρ' (eX H')/\Rep (okc (gh w H.length ok) ρ' (eX H')) w' ρ' r v
theorem u7 {cx:Cx} (hO:ek cx.P cx.O) {an:Nat->Option Ann} {f:Nat} {args:List V} {H:List Blk} {k:V->List Blk->Bool} (hk:∀ fn c,cx.P.funcs[f]? = some fn->fn.body=some c->fQ cx H.length an c 0) (h:gm cx an f args H k=true) :
  ∃ r H',(Ok cx.P f args H r H'/\OkC cx.P f args H r H')/\k r H'=true:=by
 unfold gm at h;split at h
 ·rename_i fn hfn;split at h
  ·rename_i c hc;simp only at h;obtain⟨hname,h'⟩:=and_true h;have hname':¬ fn.name = "runtime.NumGoroutine":=by simpa using hname
   have hb0:H.length<=(H.map some).length:=by simp
   obtain⟨e,s',h1,h2,h3⟩:=dj hO c 0 _ _ (hk fn c hfn hc) hb0 h';have hend:Fc cx.P H.length fn.results.toList s' k=true/\(e=.normal\/e=.ret):=by
    cases e <;> simp[K.of]at h1
    ·exact⟨h1,.inl rfl⟩
    ·exact⟨h1,.inr rfl⟩
   obtain⟨r,H',hk,hfin⟩:=w5 h2 hend.1;refine⟨r,H',?_,hk⟩;have hok:OkC cx.P f args H r H':=by
    intro w ρ ok vs hsim hdom hargs;refine calls_of_wp hfn hc ?_;have hS:Sim (gh w H.length ok) w ρ ⟨args++List.replicate (fn.ntmps - args.length) .any,H.map some⟩ { tmps:=vs.toArray++Array.replicate (fn.ntmps - vs.toArray.size) undef,defers:=[] }:=by
     refine⟨hsim,λn hn=>hdom n (by simpa using hn),rfl,λt=>?_,by simp[hargs.1],by simp[gh]⟩;show Rep _ w ρ ((args++List.replicate (fn.ntmps - args.length) V.any).getD t .any) _;by_cases ht:t<args.length
     ·have htv:t<vs.length:=by rw[<- hargs.1]; exact ht
      have e1:(args++List.replicate (fn.ntmps - args.length) V.any).getD t .any=args[t]:=by rw[List.getD,List.getElem?_append_left ht]; simp[ht]
      have e2:(vs.toArray++Array.replicate (fn.ntmps - vs.toArray.size) undef).getD t undef=vs[t]:=by rw[Array.getD_eq_getD_getElem?,Array.getElem?_append_left (by simpa using htv)]; simp[htv]
      rw[e1,e2];exact hargs.2 t _ _ (by simp[ht]) (by simp[htv])
     ·have e1:(args++List.replicate (fn.ntmps - args.length) V.any).getD t .any=.any:=by rw[List.getD,List.getElem?_append_right (by omega),List.getElem?_replicate];split <;> rfl
      rw[e1]; exact .any _
    refine h3 (gh w H.length ok) w ρ _ rfl hS _ λw' ρ' a' hs' hr=>?_
    obtain⟨v,ρ'',g1,g2,g3,g4,g5⟩:=hfin (gh w H.length ok) w' ρ' a' rfl hs';have hpost:a'.defers=[] /\ ∃ v,(results fn a'.tmps).run cx.P w'=.ok v w' /\ ∃ v',Ending.returned v=.returned v' /\ ∃ ρ',(∀ n,n<H.length->ρ' n=ρ n)/\(∀ n,H'.length<=n->ρ' n=none)/\SimW (gh w H.length ok) w' ρ' (eX H')/\Rep (okc (gh w H.length ok) ρ' (eX H')) w' ρ' r v':=by refine⟨hs'.defers,v,g1,v,rfl,ρ'',λn hn=>?_,g3,g4,g5⟩;obtain⟨q,hq,_⟩:=hsim.blks n H[n] (kZ.2 (by simp[hn]));rw[hq,g2 n q hn (hr n q hn hq)]
    rcases hend.2 with rfl | rfl
    ·exact hpost
    ·exact hpost
   refine⟨?_,hok⟩;intro w ρ ok vs hsim hdom hargs o a N Q hN;have hrun:(callFunc f vs.toArray).run cx.P w=.ok (.enter f vs.toArray) w:=by simp[callFunc,hfn,hname',hc]
   rw[hrun,Oper.upon_enter];have hcalls:=hok w ρ ok vs hsim hdom hargs;refine hcalls.mono λe' w' he=>?_
   obtain⟨v,rfl,hv⟩:=he;exact hN v w' hv
  ·cases h
 ·cases h
theorem CR {cx:Cx} (hO:ek cx.P cx.O) {an:Nat->Option Ann} {f:Nat} {args:List V} {H:List Blk} {k:V->List Blk->Bool} (hk:∀ fn c,cx.P.funcs[f]? = some fn->fn.body=some c->fQ cx H.length an c 0) (h:gm cx an f args H k=true) :
  ∃ r H',Ok cx.P f args H r H'/\k r H'=true:=by
 obtain⟨r,H',h1,h2⟩:=u7 hO hk h;exact⟨r,H',h1.1,h2⟩
abbrev Fs:=List V->List Blk->(V->List Blk->Bool)->Bool
def ac (P:Program) (f:Nat) (S:Fs):Prop:=∀ args H k,S args H k=true -> ∃ r H',Ok P f args H r H'/\k r H'=true
def ah:List (Nat × Fs)->Er
 | []=>λ_ _ _ _=>false
 | (g,S)::r=>λf=>cond (f==g) S (ah r f)
theorem ae (P:Program):ek P (ah []):=λf args H k h=>by simp[ah]at h
theorem aa {P:Program} {g:Nat} {S:Fs} {r:List (Nat × Fs)} (h:ac P g S) (hr:ek P (ah r)):ek P (ah ((g,S)::r)):=by
 intro f args H k hk;simp only[ah]at hk;cases e:(f==g)with
 | true=>
  obtain rfl:f=g:=by simpa using e
  rw[e,ap8]at hk;exact h args H k hk
 | false=>
  rw[e,ap_]at hk;exact hr f args H k hk
def iL:Code->Nat->List (Nat × Code)
 | .seq a b,bid=>iL a bid++iL b bid
 | .cond _ a b,bid=>iL a bid++iL b bid
 | .block id b,_=>iL b id
 | .loop b,bid=>(bid,b)::iL b bid
 | _,_=>[]
def lps (P:Program) (f:Nat):List (Nat × Code):=
 match P.funcs[f]? with
 | some fn=>match fn.body with
  | some c=>iL c 0
  | none=>[]
 | none=>[]
def lp (P:Program) (f i:Nat):Nat × Code:=(lps P f).getD i (0,.skip)
def be (cx:Cx) (base:Nat) (an:Nat->Option Ann) (p:Nat × Code):Prop:=
 ∀ hk,dJ (an p.1)=some hk -> ∀ s κ,hk s κ=true->vK cx.N (λs k=>db cx base an p.2 p.1 s (uH cx.P base (an p.1) κ k)) s=true
theorem dQ {cx:Cx} {base:Nat} {an:Nat->Option Ann}:∀(c:Code) (bid:Nat),(∀ p,p ∈ iL c bid->be cx base an p)->fQ cx base an c bid
 | .seq a b,bid,h=>⟨dQ a bid λp hp=>h p (by simp[iL,hp]),dQ b bid λp hp=>h p (by simp[iL,hp])⟩
 | .cond _ a b,bid,h=>⟨dQ a bid λp hp=>h p (by simp[iL,hp]),dQ b bid λp hp=>h p (by simp[iL,hp])⟩
 | .block id b,_,h=>dQ b id h
 | .loop b,bid,h=>⟨dQ b bid λp hp=>h p (by simp[iL,hp]),h (bid,b) (by simp[iL])⟩
 | .skip,_,_=>trivial
 | .region ..,_,_=>trivial
 | .exit _,_,_=>trivial
 | .ret,_,_=>trivial
 | .rangeFunc ..,_,_=>trivial
 | .scope _,_,_=>trivial
 | .label _,_,_=>trivial
 | .goto _,_,_=>trivial
 | .refuse _,_,_=>trivial
theorem Oi {cx:Cx} (hO:ek cx.P cx.O) {f:Nat} {S:Fs} (n:Nat) (hn:(lps cx.P f).length=n) (h:∀ args H k,S args H k=true -> ∃ an,(∀ i,i<n->be cx H.length an (lp cx.P f i))/\gm cx an f args H k=true):ac cx.P f S:=
 λargs H k hs=>by
  obtain⟨an,hk,hb⟩:=h args H k hs;refine CR hO (λfn c hfn hc=>dQ c 0 λp hp=>?_) hb;have e:lps cx.P f=iL c 0:=by simp[lps,hfn,hc]
  rw[<- e]at hp;obtain⟨i,hi,rfl⟩:=aqo hp;have:=hk i (by omega);unfold lp at this
  rwa [List.getD_eq_getElem?_getD,List.getElem?_eq_getElem hi]at this
theorem Ol {P:Program} {f:FuncId} {args:Array Value} {w w':World} {v:Value} {R:Value->World->Prop} (h:(callFunc f args).run P w=.ok (.value v) w') (hR:R v w'):Qu P f args w R:=by intro o a N Q hN;rw[h]; exact hN v w' hR
theorem Dk {P:Program} {f:Nat} {S:Fs} (h:∀ args H k,S args H k=true -> ∃ r,k r H=true /\ ∀(ok:Nat->Prop) (w:World) (ρ:Rho) (vs:List Value),RepL ok w ρ args vs -> ∃ v w',(callFunc f vs.toArray).run P w=.ok (.value v) w'/\(w'=w\/w'=w.drew)/\Rep ok w ρ r v):ac P f S:=by
 intro args H k hk;obtain⟨r,h1,h2⟩:=h args H k hk;refine⟨r,H,λw ρ ok vs hsim hdom hargs=>?_,h1⟩;obtain⟨v,w',g1,g2,g3⟩:=h2 _ w ρ vs hargs;refine Ol g1 ⟨ρ,λ_ _=>rfl,hdom,?_⟩;rcases g2 with rfl | rfl
 ·exact⟨hsim,g3⟩
 ·obtain⟨k1,k2⟩:=hsim.drew;exact⟨k1,g3.mono k2⟩
inductive Atom where
 | fl (x:Fl)
 | int (n:Int)
 | bool (b:Bool)
 | fls (xs:List Fl)
 | ints (xs:List Int)
 | nat (n:Nat)
 | val (v:Value)
 | vs (cs:List V)
 deriving Inhabited
inductive Sh where
 | any
 | nil
 | flt
 | int (k:IntKind)
 | bool
 | val
 | ptr (n o:Nat)
 | slw (n:Nat)
 | sl (n:Nat)
 | rof
 | roi (k:IntKind)
 | fn (g:Nat) (caps:List Sh)
 | agg (cs:List Sh)
 | ro (sz:Nat) (cs:List Sh)
 | rov (sz:Nat)
 | litI (k:IntKind) (n:Int)
 | litB (b:Bool)
 | fb
 deriving Inhabited
mutual
def Sh.ext:Sh->V->Option (List Atom)
 | .any,.any=>some []
 | .nil,.nil=>some []
 | .flt,.flt x=>some [.fl x]
 | .int k,.int k' n=>cond (decide (k=k')) (some [.int n]) none
 | .bool,.bool b=>some [.bool b]
 | .val,.val v=>some [.val v]
 | .ptr n o,.ptr n' o'=>cond (n==n'&&o==o') (some []) none
 | .slw n,.slw n'=>cond (n==n') (some []) none
 | .sl n,.sl n' o l=>cond (n==n') (some [.nat o,.nat l]) none
 | .rof,.rof xs=>some [.fls xs]
 | .roi k,.roi k' xs=>cond (decide (k=k')) (some [.ints xs]) none
 | .fn g caps,.fn g' caps'=>cond (g==g') (w7 caps caps') none
 | .agg cs,.agg cs'=>w7 cs cs'
 | .ro sz cs,.ro sz' cs'=>cond (sz==sz') (w7 cs cs') none
 | .rov sz,.ro sz' cs=>cond (sz==sz') (some [.vs cs]) none
 | .litI k n,.int k' n'=>cond (decide (k=k')&&decide (n=n')) (some []) none
 | .litB b,.bool b'=>cond (b==b') (some []) none
 | .fb,.val (.float .f64 b)=>some [.nat b]
 | _,_=>none
def w7:List Sh->List V->Option (List Atom)
 | [],[]=>some []
 | s::ss,v::vs=>match Sh.ext s v,w7 ss vs with
  | some a,some b=>some (a++b)
  | _,_=>none
 | _,_=>none
end
mutual
def Sh.build:Sh->List Atom->V × List Atom
 | .any,r=>(.any,r)
 | .nil,r=>(.nil,r)
 | .flt,.fl x::r=>(.flt x,r)
 | .int k,.int n::r=>(.int k n,r)
 | .bool,.bool b::r=>(.bool b,r)
 | .val,.val v::r=>(.val v,r)
 | .ptr n o,r=>(.ptr n o,r)
 | .slw n,r=>(.slw n,r)
 | .sl n,.nat o :: .nat l::r=>(.sl n o l,r)
 | .rof,.fls xs::r=>(.rof xs,r)
 | .roi k,.ints xs::r=>(.roi k xs,r)
 | .fn g caps,r=>match kz caps r with
  | (vs,r)=>(.fn g vs,r)
 | .agg cs,r=>match kz cs r with
  | (vs,r)=>(.agg vs,r)
 | .ro sz cs,r=>match kz cs r with
  | (vs,r)=>(.ro sz vs,r)
 | .rov sz,.vs cs::r=>(.ro sz cs,r)
 | .litI k n,r=>(.int k n,r)
 | .litB b,r=>(.bool b,r)
 | .fb,.nat b::r=>(.val (.float .f64 b),r)
 | _,r=>(.any,r)
def kz:List Sh->List Atom->List V × List Atom
 | [],r=>([],r)
 | s::ss,r=>match Sh.build s r with
  | (v,r)=>match kz ss r with
   | (vs,r)=>(v::vs,r)
end
mutual
theorem Sh.ext_build:∀(s:Sh) (v:V) (a:List Atom),s.ext v=some a -> ∀ r,s.build (a++r)=(v,r)
 | .any,v,a,h,r=>by cases v <;> simp[Sh.ext]at h; subst h; rfl
 | .nil,v,a,h,r=>by cases v <;> simp[Sh.ext]at h; subst h; rfl
 | .flt,v,a,h,r=>by cases v <;> simp[Sh.ext]at h; subst h; rfl
 | .int k,v,a,h,r=>by
  cases v <;> simp[Sh.ext]at h
  rename_i k' n;by_cases e:k=k'
  ·subst e; simp at h; subst h; rfl
  ·simp[e]at h
 | .bool,v,a,h,r=>by cases v <;> simp[Sh.ext]at h; subst h; rfl
 | .val,v,a,h,r=>by cases v <;> simp[Sh.ext]at h; subst h; rfl
 | .ptr n o,v,a,h,r=>by
  cases v <;> simp[Sh.ext]at h
  rename_i n' o';by_cases e:n=n'/\o=o'
  ·obtain⟨rfl,rfl⟩:=e; simp at h; subst h; rfl
  ·have:(n==n'&&o==o')=false:=by simpa using e
   rw[this]at h; cases h
 | .slw n,v,a,h,r=>by
  cases v <;> simp[Sh.ext]at h
  rename_i n';by_cases e:n=n'
  ·subst e; simp at h; subst h; rfl
  ·have:(n==n')=false:=by simpa using e
   rw[this]at h; cases h
 | .sl n,v,a,h,r=>by
  cases v <;> simp[Sh.ext]at h
  rename_i n' o l;by_cases e:n=n'
  ·subst e; simp at h; subst h; rfl
  ·have:(n==n')=false:=by simpa using e
   rw[this]at h; cases h
 | .rof,v,a,h,r=>by cases v <;> simp[Sh.ext]at h; subst h; rfl
 | .roi k,v,a,h,r=>by
  cases v <;> simp[Sh.ext]at h
  rename_i k' n;by_cases e:k=k'
  ·subst e; simp at h; subst h; rfl
  ·simp[e]at h
 | .fn g caps,v,a,h,r=>by
  cases v <;> simp only[Sh.ext,reduceCtorEq]at h
  rename_i g' caps';by_cases e:g=g'
  ·subst e;simp only[aqY,ap8]at h;simp only[Sh.build,f8 caps caps' a h r]
  ·have:(g==g')=false:=by simpa using e
   rw[this]at h; cases h
 | .agg cs,v,a,h,r=>by
  cases v <;> simp only[Sh.ext,reduceCtorEq]at h
  rename_i cs';simp only[Sh.build,f8 cs cs' a h r]
 | .ro sz cs,v,a,h,r=>by
  cases v <;> simp only[Sh.ext,reduceCtorEq]at h
  rename_i sz' cs';by_cases e:sz=sz'
  ·subst e;simp only[aqY,ap8]at h;simp only[Sh.build,f8 cs cs' a h r]
  ·have:(sz==sz')=false:=by simpa using e
   rw[this]at h; cases h
 | .rov sz,v,a,h,r=>by
  cases v <;> simp only[Sh.ext,reduceCtorEq]at h
  rename_i sz' cs';by_cases e:sz=sz'
  ·subst e;simp only[aqY,ap8]at h;cases h; rfl
  ·have:(sz==sz')=false:=by simpa using e
   rw[this]at h; cases h
 | .litI k n,v,a,h,r=>by
  cases v <;> simp only[Sh.ext,reduceCtorEq]at h
  rename_i k' n';by_cases e:k=k'/\n=n'
  ·obtain⟨rfl,rfl⟩:=e; simp at h; subst h; rfl
  ·have:(decide (k=k')&&decide (n=n'))=false:=by simpa using e
   rw[this]at h; cases h
 | .litB b,v,a,h,r=>by
  cases v <;> simp only[Sh.ext,reduceCtorEq]at h
  rename_i b';by_cases e:b=b'
  ·subst e; simp at h; subst h; rfl
  ·have:(b==b')=false:=by simpa using e
   rw[this]at h; cases h
 | .fb,v,a,h,r=>by
  cases v with
  | val u=>
   cases u with
   | float k b=>cases k <;> simp[Sh.ext]at h; subst h; rfl
   | _=>simp[Sh.ext]at h
  | _=>simp[Sh.ext]at h
theorem f8:∀(s:List Sh) (v:List V) (a:List Atom),w7 s v=some a -> ∀ r,kz s (a++r)=(v,r)
 | [],v,a,h,r=>by cases v <;> simp[w7]at h; subst h; rfl
 | s::ss,v,a,h,r=>by
  cases v with
  | nil=>simp[w7]at h
  | cons v vs=>
   simp only[w7]at h;split at h
   ·rename_i a1 a2 h1 h2;cases h;simp only[kz,aqe,Sh.ext_build s v a1 h1,f8 ss vs a2 h2]
   ·cases h
end
inductive BSh where
 | flts
 | ints (k:IntKind)
 | cells (cs:List Sh)
 | cvs
def BSh.ext:BSh->Body->Option (List Atom)
 | .flts,.flts xs=>some [.fls xs]
 | .ints k,.ints k' xs=>cond (decide (k=k')) (some [.ints xs]) none
 | .cells cs,.cells cs'=>w7 cs cs'
 | .cvs,.cells cs=>some [.vs cs]
 | _,_=>none
def BSh.build:BSh->List Atom->Body × List Atom
 | .flts,.fls xs::r=>(.flts xs,r)
 | .ints k,.ints xs::r=>(.ints k xs,r)
 | .cells cs,r=>match kz cs r with
  | (vs,r)=>(.cells vs,r)
 | .cvs,.vs cs::r=>(.cells cs,r)
 | _,r=>(.cells [],r)
theorem BSh.ext_build (s:BSh) (v:Body) (a:List Atom) (h:s.ext v=some a) (r:List Atom):s.build (a++r)=(v,r):=by
 cases s with
 | flts=>cases v <;> simp[BSh.ext]at h; subst h; rfl
 | ints k=>
  cases v <;> simp[BSh.ext]at h
  rename_i k' n;by_cases e:k=k'
  ·subst e; simp at h; subst h; rfl
  ·simp[e]at h
 | cells cs=>
  cases v <;> simp only[BSh.ext,reduceCtorEq]at h
  rename_i cs';simp only[BSh.build,f8 cs cs' a h r]
 | cvs=>cases v <;> simp[BSh.ext]at h; subst h; rfl
abbrev Pt:=Option (Nat × Nat × BSh)
def vH:List Pt->bh->Option (List Atom)
 | [],[]=>some []
 | none::ss,none::bs=>vH ss bs
 | some (e,sz,c)::ss,some b::bs=>cond (e==b.e&&sz==b.sz) (match c.ext b.c,vH ss bs with
  | some a,some r=>some (a++r)
  | _,_=>none) none
 | _,_=>none
def m8:List Pt->List Atom->bh
 | [],_=>[]
 | none::ss,r=>none::m8 ss r
 | some (e,sz,c)::ss,r=>match c.build r with
  | (c,r)=>some ⟨e,sz,c⟩::m8 ss r
theorem lT:∀(s:List Pt) (M:bh) (a:List Atom),vH s M=some a->m8 s a=M
 | [],M,a,h=>by cases M <;> simp[vH]at h; rfl
 | none::ss,M,a,h=>by
  cases M with
  | nil=>simp[vH]at h
  | cons b bs=>
   cases b with
   | none=>simp only[vH]at h; simp only[m8,lT ss bs a h]
   | some b=>simp[vH]at h
 | some (e,sz,c)::ss,M,a,h=>by
  cases M with
  | nil=>simp[vH]at h
  | cons b bs=>
   cases b with
   | none=>simp[vH]at h
   | some b=>
    simp only[vH]at h;by_cases e':e=b.e/\sz=b.sz
    ·obtain⟨rfl,rfl⟩:=e';simp only[aqY,Bool.and_self,ap8]at h;split at h
     ·rename_i a1 a2 h1 h2;cases h;simp only[m8,BSh.ext_build c b.c a1 h1,lT ss bs a2 h2]
     ·cases h
    ·have:(e==b.e&&sz==b.sz)=false:=by simpa using e'
     rw[this]at h; cases h
structure StSh where
 F:List Sh
 M:List Pt
def StSh.ext (s:StSh) (t:St):Option (List Atom):=
 match w7 s.F t.F,vH s.M t.M with
 | some a,some b=>some (a++b)
 | _,_=>none
def StSh.build (s:StSh) (a:List Atom):St:=
 match kz s.F a with
 | (F,r)=>⟨F,m8 s.M r⟩
theorem StSh.ext_build {s:StSh} {t:St} {a:List Atom} (h:s.ext t=some a):t=s.build a:=by
 unfold StSh.ext at h;split at h
 ·rename_i a1 a2 h1 h2;cases h;simp only[StSh.build,f8 s.F t.F a1 h1,lT s.M t.M a2 h2]
 ·cases h
structure FnSh where
 A:List Sh
 H:List Pt
def FnSh.ext (s:FnSh) (args:List V) (H:List Blk):Option (List Atom):=
 match w7 s.A args,vH s.H (H.map some)with
 | some a,some b=>some (a++b)
 | _,_=>none
def FnSh.args (s:FnSh) (a:List Atom):List V:=(kz s.A a).1
def FnSh.heap (s:FnSh) (a:List Atom):bh:=m8 s.H (kz s.A a).2
theorem FnSh.ext_build {s:FnSh} {args:List V} {H:List Blk} {a:List Atom} (h:s.ext args H=some a):args=s.args a/\H.map some=s.heap a:=by
 unfold FnSh.ext at h;split at h
 ·rename_i a1 a2 h1 h2;cases h;simp only[FnSh.args,FnSh.heap,f8 s.A args a1 h1,lT s.H _ a2 h2,and_self]
 ·cases h
def az (sh:FnSh) (S:List Atom->(V->List Blk->Bool)->Bool):Fs:=λargs H k=>match sh.ext args H with
 | some a=>S a k
 | none=>false
def xO (F G:Fs) (sh:FnSh):Fs:=λargs H k=>match sh.ext args H with
 | some _=>F args H k
 | none=>G args H k
theorem jo {P:Program} {f:Nat} {F G:Fs} {sh:FnSh} (h1:ac P f F) (h2:ac P f G):ac P f (xO F G sh):=by
 intro args H k h;unfold xO at h;split at h
 ·exact h1 args H k h
 ·exact h2 args H k h
theorem rF {H:List Blk} {H':List Blk} (h:H.map some=H'.map some):H=H':=by have:=congrArg (List.filterMap id) h;simpa using this
theorem am {cx:Cx} (hO:ek cx.P cx.O) {f:Nat} (sh:FnSh) (S:List Atom->(V->List Blk->Bool)->Bool) (an:Nat->Option Ann) (n base:Nat) (hn:(lps cx.P f).length=n) (hk:∀ i,i<n->be cx base an (lp cx.P f i))
  (h:∀ a k,S a k=true -> ∃ H,sh.heap a=H.map some/\H.length=base/\gm cx an f (sh.args a) H k=true):ac cx.P f (az sh S):=by
 refine Oi hO n hn λargs H k hs=>?_
 unfold az at hs;split at hs
 ·rename_i a ha;obtain⟨rfl,e2⟩:=FnSh.ext_build ha;obtain⟨H',g1,g2,g3⟩:=h a k hs;rw[g1]at e2;obtain rfl:=rF e2;exact⟨an,λi hi=>by rw[g2]; exact hk i hi,g3⟩
 ·cases hs
theorem ahC {cx:Cx} (hO:ek cx.P cx.O) {f:Nat} (an:Nat->Option Ann) (n:Nat) (hn:(lps cx.P f).length=n) (hk:∀ i,i<n->be cx 0 an (lp cx.P f i)) {args:List V}
  (h:gm cx an f args [] (λr H=>match r,H with | .bool b,[]=>b | _,_=>false)=true):OkC cx.P f args [] (.bool true) []:=by
 obtain⟨r,H',⟨_,h1⟩,h2⟩:=u7 hO (λfn c hfn hc=>dQ c 0 λp hp=>by
  have e:lps cx.P f=iL c 0:=by simp[lps,hfn,hc]
  rw[<- e]at hp;obtain⟨i,hi,rfl⟩:=aqo hp;have:=hk i (by omega);unfold lp at this
  rwa [List.getD_eq_getElem?_getD,List.getElem?_eq_getElem hi]at this) h
 split at h2
 ·subst h2; exact h1
 ·cases h2
theorem jF {P:Program} {f:Nat} {sh:FnSh} {S S':List Atom->(V->List Blk->Bool)->Bool} (h:ac P f (az sh S)) (hs:∀ a k,S' a k=true->S a k=true):ac P f (az sh S'):=by
 intro args H k hk;refine h args H k ?_;unfold az at hk ⊢;split at hk
 ·exact hs _ _ hk
 ·cases hk
def nx (by':Nat) (l c:Int):Bool:=decide (0<=l/\l<=c/\c<=9223372036854775807/\(by':Int)*c<=140737488355328)
def av (op:BinOp) (q:IntKind) (a b:Int):Int:=(jV op q a b).getD 0
def aR:List (StSh × (List Atom->K->Bool))->St->K->Bool
 | [],_,_=>false
 | (sh,S)::r,s,κ=>match sh.ext s with
  | some a=>S a κ
  | none=>aR r s κ
def aV (cx:Cx) (base:Nat) (an:Nat->Option Ann) (p:Nat × Code) (x:StSh × (List Atom->K->Bool)):Prop:=
 ∀ a κ,x.2 a κ=true->vK cx.N (λs k=>db cx base an p.2 p.1 s (uH cx.P base (an p.1) κ k)) (x.1.build a)=true
def CA (cx:Cx) (base:Nat) (an:Nat->Option Ann) (p:Nat × Code):List (StSh × (List Atom->K->Bool))->Prop
 | []=>True
 | x::r=>aV cx base an p x/\CA cx base an p r
theorem aN {cx:Cx} {base:Nat} {an:Nat->Option Ann} {p:Nat × Code} (l:List (StSh × (List Atom->K->Bool))) (hh:dJ (an p.1)=some (aR l)) (h:CA cx base an p l):be cx base an p:=by
 intro hk e s κ hs;rw[hh]at e;cases e;clear hh;revert hs h;induction l with
 | nil=>intro _ hs; simp[aR]at hs
 | cons x r ih=>
  intro h hs;obtain⟨sh,S⟩:=x;simp only[aR]at hs;split at hs
  ·rename_i a ha;rw[StSh.ext_build ha];exact h.1 a κ hs
  ·exact ih h.2 hs
def aH {σ:Type}:Nat->(σ->(σ->Bool)->Bool)->σ->Bool
 | 0,_,_=>false
 | n+1,step,s=>step s (aH n step)
theorem aW {σ:Type} {step:St->(St->Bool)->Bool} {stepG:σ->(σ->Bool)->Bool} (C:σ->St) (h:∀ v K,step (C v) K=stepG v λv'=>K (C v')):∀ n v,vK n step (C v)=aH n stepG v:=by
 intro n;induction n with
 | zero=>intro v; rfl
 | succ n ih=>
  intro v;show step (C v) (vK n step)=stepG v (aH n stepG);rw[h];congr 1;funext v';exact ih v'
def oD (base:Nat) (M:bh) (n:Nat):Bool:=match aE M n with
 | some ⟨_,sz,.flts _⟩=>sz==1&&decide (base<=n)
 | some ⟨_,sz,.ints _ _⟩=>sz==1&&decide (base<=n)
 | _=>false
mutual
def Dh (base:Nat) (M:bh):V->(V->Bool)->Bool
 | .slw n,k=>cond (oD base M n) (match aE M n with
  | some ⟨_,_,.flts xs⟩=>k (.rof xs)
  | some ⟨_,_,.ints q xs⟩=>k (.roi q xs)
  | _=>false) (k (.slw n))
 | .sl n o len,k=>cond (oD base M n) (match aE M n with
  | some ⟨_,_,.flts xs⟩=>decide (o+len<=xs.length)&&k (.rof ((xs.drop o).take len))
  | some ⟨_,_,.ints q xs⟩=>decide (o+len<=xs.length)&&k (.roi q ((xs.drop o).take len))
  | _=>false) (k (.sl n o len))
 | .ptr n o,k=>cond (oD base M n) (k .any) (k (.ptr n o))
 | .agg cs,k=>Di base M cs λcs'=>k (.agg cs')
 | .tup cs,k=>Di base M cs λcs'=>k (.tup cs')
 | .fn g cs,k=>Di base M cs λcs'=>k (.fn g cs')
 | .ro sz cs,k=>k (.ro sz cs)
 | .rp cs i,k=>k (.rp cs i)
 | v,k=>k v
def Di (base:Nat) (M:bh):List V->(List V->Bool)->Bool
 | [],k=>k []
 | v::r,k=>Dh base M v λv'=>Di base M r λr'=>k (v'::r')
end
def afH (P:Program) (base:Nat) (M:bh) (b:Blk) (k:Blk->Bool):Bool:=match b.c with
 | .cells cs=>Di base M cs λcs'=>k { b with c:=.cells (iq P (kinds P 4 b.e) cs') }
 | _=>k b
def Fk (P:Program) (base:Nat) (M:bh):Nat->bh->(bh->Bool)->Bool
 | _,[],k=>k []
 | n,none::r,k=>Fk P base M (n+1) r λr'=>k (none::r')
 | n,some b::r,k=>cond (oD base M n) (Fk P base M (n+1) r λr'=>k (none::r')) (afH P base M b λb'=>Fk P base M (n+1) r λr'=>k (some b'::r'))
def afI (P:Program) (base:Nat) (s:St) (k:St->Bool):Bool:=Di base s.M s.F λF=>Fk P base s.M 0 s.M λM=>k ⟨F,M⟩
def Ev (base:Nat) (M:bh) (L':LK):Prop:=∀ m,(L' m).isSome=true->(aE M m).isSome=true/\oD base M m=false
theorem DE {G:Gh} {ρ:Rho} {M:bh} {L':LK} (hL:Ev G.base M L') {b:Nat} (h:okc G ρ (aE M) b):okc G ρ L' b:=by refine⟨h.1,λn blk p hn hp=>?_⟩;obtain⟨h1,-⟩:=hL n (by rw[hn]; rfl);obtain⟨blk',hb⟩:=Option.isSome_iff_exists.1 h1;exact h.2 n blk' p hb hp
theorem xA {G:Gh} {w:World} {ρ:Rho} {M:bh} {L':LK} (hL:Ev G.base M L'):Keeps (okc G ρ (aE M)) w ρ (okc G ρ L') w ρ:=
 ⟨λ_ _ h=>h,λ_ _ h=>⟨DE hL h,rfl⟩,ap1 _⟩
theorem Uf {G:Gh} {w:World} {ρ:Rho} {M:bh} {L':LK} (hs:SimW G w ρ (aE M)) (hL:Ev G.base M L') {n:Nat} (hg:oD G.base M n=true) {b:Nat} (h:okL (okc G ρ (aE M)) ρ (aE M) [n] b):okc G ρ L' b:=by
 rcases h with h | ⟨m,p,blk,hm,hb,hp,rfl⟩
 ·exact DE hL h
 ·simp at hm; subst hm;have hbase:G.base<=m:=by
   unfold oD at hg;split at hg <;> simp at hg
   ·exact hg.2
   ·exact hg.2
  refine⟨.inr (hs.own m p hbase hp),λk blk' p' hk hp' heq=>?_⟩;obtain⟨h1,h2⟩:=hL k (by rw[hk]; rfl);obtain⟨blk'',hb''⟩:=Option.isSome_iff_exists.1 h1;have:=hs.inj k m blk'' blk p' p hb'' hb hp' hp heq;subst this;rw[hg]at h2; cases h2
theorem OP {G:Gh} {w:World} {ρ:Rho} {M:bh} {L':LK} (hs:SimW G w ρ (aE M)) (hL:Ev G.base M L') {n:Nat} (hg:oD G.base M n=true):Keeps (okL (okc G ρ (aE M)) ρ (aE M) [n]) w ρ (okc G ρ L') w ρ:=
 ⟨λ_ _ h=>h,λ_ _ h=>⟨Uf hs hL hg h,rfl⟩,ap1 _⟩
theorem C5 {xs:List Fl} {o n:Nat} (h:o+n<=xs.length):Body.cut (.flts xs) o n=some (.flts ((xs.drop o).take n)):=by show cond (decide (o+n<=xs.length)) _ _=_;rw[aqx h]; rfl
theorem C7 {q:IntKind} {xs:List Int} {o n:Nat} (h:o+n<=xs.length):Body.cut (.ints q xs) o n=some (.ints q ((xs.drop o).take n)):=by show cond (decide (o+n<=xs.length)) _ _=_;rw[aqx h]; rfl
abbrev Frz (base:Nat) (M:bh) (v v':V):Prop:=∀(G:Gh) (w:World) (ρ:Rho) (L':LK) (u:Value),G.base=base->SimW G w ρ (aE M)->Ev base M L'->Rep (okc G ρ (aE M)) w ρ v u->Rep (okc G ρ L') w ρ v' u
theorem f9 {base:Nat} {M:bh} (v:V):Frz base M v v:=λG w ρ L' u hG _ hL h=>by subst hG; exact h.mono (xA hL)
theorem q_ {base:Nat} {M:bh} {n:Nat} {v v':V} (hg:oD base M n=true) (hl:rD M 1 v=some v') (ht:pQ M 1 v=[n]):Frz base M v v':=λG w ρ L' u hG hs hL h=>by subst hG;have:=pP hs [n] (λ_ _=>rfl) 1 v v' u hl (λm hm=>by rw[ht]at hm; exact hm) h;exact this.mono (OP hs hL hg)
mutual
theorem Fm {base:Nat} {M:bh}:∀(v:V) (k:V->Bool),Dh base M v k=true -> ∃ v',k v'=true/\Frz base M v v'
 | .slw n,k,h=>by
  simp only[Dh]at h;cases hg:oD base M n with
  | false=>rw[hg]at h; exact⟨_,h,f9 _⟩
  | true=>
   rw[hg,ap8]at h;have hg':=hg;unfold oD at hg';split at h
   ·rename_i e sz xs hb;rw[hb]at hg';simp at hg';exact⟨_,h,q_ hg (by simp[rD,hb,hg'.1]) (by simp[pQ,hb])⟩
   ·rename_i e sz q xs hb;rw[hb]at hg';simp at hg';exact⟨_,h,q_ hg (by simp[rD,hb,hg'.1]) (by simp[pQ,hb])⟩
   ·cases h
 | .sl n o len,k,h=>by
  simp only[Dh]at h;cases hg:oD base M n with
  | false=>rw[hg]at h; exact⟨_,h,f9 _⟩
  | true=>
   rw[hg,ap8]at h;have hg':=hg;unfold oD at hg';split at h
   ·rename_i e sz xs hb;rw[hb]at hg';simp at hg';obtain⟨h1,h2⟩:=and_true h;have h1:=ap0 h1;obtain⟨rfl,-⟩:=hg';exact⟨_,h2,q_ hg (by simp[rD,hb,dO,C5 h1]) (by simp[pQ,hb,dO,C5 h1])⟩
   ·rename_i e sz q xs hb;rw[hb]at hg';simp at hg';obtain⟨h1,h2⟩:=and_true h;have h1:=ap0 h1;obtain⟨rfl,-⟩:=hg';exact⟨_,h2,q_ hg (by simp[rD,hb,dO,C7 h1]) (by simp[pQ,hb,dO,C7 h1])⟩
   ·cases h
 | .ptr n o,k,h=>by
  simp only[Dh]at h;cases hg:oD base M n with
  | false=>rw[hg]at h; exact⟨_,h,f9 _⟩
  | true=>rw[hg]at h; exact⟨_,h,λ_ _ _ _ _ _ _ _ _=>.any _⟩
 | .agg cs,k,h=>by
  simp only[Dh]at h;obtain⟨cs',h1,h2,h3⟩:=ic cs _ h;refine⟨_,h1,λG w ρ L' u hG hs hL hr=>?_⟩;obtain⟨us,rfl,hl,g1,g2⟩:=hr.agg_inv;refine .agg cs' us (by rw[<- h2]; exact hl) g1 λi c v hc hv=>?_
  obtain⟨c0,hc0,hf⟩:=h3 i c hc;exact hf G w ρ L' v hG hs hL (g2 i c0 v hc0 hv)
 | .tup cs,k,h=>by
  simp only[Dh]at h;obtain⟨cs',h1,h2,h3⟩:=ic cs _ h;refine⟨_,h1,λG w ρ L' u hG hs hL hr=>?_⟩;cases hr with
  | tup _ us hl g2=>
   refine .tup cs' us (by rw[<- h2]; exact hl) λi c v hc hv=>?_
   obtain⟨c0,hc0,hf⟩:=h3 i c hc;exact hf G w ρ L' v hG hs hL (g2 i c0 v hc0 hv)
 | .fn g cs,k,h=>by
  simp only[Dh]at h;obtain⟨cs',h1,h2,h3⟩:=ic cs _ h;refine⟨_,h1,λG w ρ L' u hG hs hL hr=>?_⟩;cases hr with
  | fn _ _ us hl g2=>
   refine .fn g cs' us (by rw[<- h2]; exact hl) λi c v hc hv=>?_
   obtain⟨c0,hc0,hf⟩:=h3 i c hc;exact hf G w ρ L' v hG hs hL (g2 i c0 v hc0 hv)
 | .any,k,h=>⟨_,h,f9 _⟩
 | .nil,k,h=>⟨_,h,f9 _⟩
 | .bool _,k,h=>⟨_,h,f9 _⟩
 | .int _ _,k,h=>⟨_,h,f9 _⟩
 | .flt _,k,h=>⟨_,h,f9 _⟩
 | .val _,k,h=>⟨_,h,f9 _⟩
 | .rof _,k,h=>⟨_,h,f9 _⟩
 | .roi _ _,k,h=>⟨_,h,f9 _⟩
 | .ro _ _,k,h=>⟨_,h,f9 _⟩
 | .pf _ _,k,h=>⟨_,h,f9 _⟩
 | .pi _ _ _,k,h=>⟨_,h,f9 _⟩
 | .rp _ _,k,h=>⟨_,h,f9 _⟩
theorem ic {base:Nat} {M:bh}:∀(vs:List V) (k:List V->Bool),Di base M vs k=true -> ∃ vs',k vs'=true/\vs.length=vs'.length /\ ∀(i:Nat) v',vs'[i]? = some v' -> ∃ v,vs[i]? = some v/\Frz base M v v'
 | [],k,h=>⟨[],h,rfl,λi v' hv=>by simp at hv⟩
 | v::r,k,h=>by
  simp only[Di]at h;obtain⟨v',h1,h2⟩:=Fm v _ h;obtain⟨r',h3,h4,h5⟩:=ic r _ h1;refine⟨v'::r',h3,by simp[h4],λi c hc=>?_⟩;cases i with
  | zero=>simp at hc; subst hc; exact⟨v,rfl,h2⟩
  | succ i=>obtain⟨c0,hc0,hf⟩:=h5 i c (by simpa using hc); exact⟨c0,by simpa using hc0,hf⟩
end
def adm (base:Nat) (M:bh) (b b':Blk):Prop:=b'.e=b.e/\b'.sz=b.sz/\b'.c.size=b.c.size /\
 ∀(G:Gh) (w:World) (ρ:Rho) (L':LK) (cur:Array Value),G.base=base->SimW G w ρ (aE M)->Ev base M L'->BodyRep (okc G ρ (aE M)) w ρ b.c cur->BodyRep (okc G ρ L') w ρ b'.c cur
theorem oY (cs:List V) (i:Nat):(Body.cells cs).at i=cs[i]?:=rfl
theorem Fj {P:Program} {base:Nat} {M:bh} (b:Blk) (k:Blk->Bool) (h:afH P base M b k=true):∃ b',k b'=true/\adm base M b b':=by
 unfold afH at h;split at h
 ·rename_i cs hc;obtain⟨cs',h1,h2,h3⟩:=ic cs _ h;refine⟨_,h1,rfl,rfl,?_,λG w ρ L' cur hG hs hL hr=>?_⟩
  ·show(iq P (kinds P 4 b.e) cs').length=b.c.size;rw[iB,hc,<- h2]; rfl
  ·rw[hc]at hr;have hf:∀ i,∃ u:Value,i<cs'.length->(cur[i]? = some u/\u.oneCell'=true /\ ∀ z,cs'[i]? = some z->Rep (okc G ρ L') w ρ z u):=by
    intro i;by_cases hi:i<cs'.length
    ·obtain⟨c0,hc0,hfz⟩:=h3 i cs'[i] (List.getElem?_eq_getElem hi);obtain⟨u,u1,u2,u3⟩:=hr i c0 (by rw[oY]; exact hc0);exact⟨u,λ_=>⟨u1,u2,λz hz=>by rw[List.getElem?_eq_getElem hi]at hz; cases hz; exact hfz G w ρ L' u hG hs hL u3⟩⟩
    ·exact⟨.bool false,λh=>absurd h hi⟩
   obtain⟨g,hg⟩:=Classical.skolem.1 hf;have hrl:RepL (okc G ρ L') w ρ cs' ((List.range cs'.length).map g):=by refine⟨by simp,λi x u hx hu=>?_⟩;have hi:i<cs'.length:=(List.getElem?_eq_some_iff.1 hx).1;rw[List.getElem?_map,List.getElem?_range hi]at hu;cases hu;exact(hg i hi).2.2 x hx
   have hn:=pV (P:=P) (kinds P 4 b.e) cs' _ hrl;intro i x hx;rw[oY]at hx;have hi:i<cs'.length:=by
    have:=(List.getElem?_eq_some_iff.1 hx).1
    rwa [iB]at this
   refine⟨g i,(hg i hi).1,(hg i hi).2.1,hn.2 i x (g i) hx ?_⟩;rw[List.getElem?_map,List.getElem?_range hi]; rfl
 ·exact⟨b,h,rfl,rfl,rfl,λG w ρ L' cur hG hs hL hr=>by subst hG; exact hr.mono (xA hL)⟩
theorem lV {P:Program} {base:Nat} {M:bh}:∀(l:bh) (n:Nat) (k:bh->Bool),Fk P base M n l k=true ->
  ∃ l',k l'=true/\l'.length=l.length /\ ∀(i:Nat) b',l'[i]? = some (some b') -> ∃ b,l[i]? = some (some b)/\oD base M (n+i)=false/\adm base M b b'
 | [],n,k,h=>⟨[],h,rfl,λi b' hb=>by simp at hb⟩
 | none::r,n,k,h=>by
  simp only[Fk]at h;obtain⟨l',h1,h2,h3⟩:=lV r (n+1) _ h;refine⟨none::l',h1,by simp[h2],λi b' hb=>?_⟩;cases i with
  | zero=>simp at hb
  | succ i=>
   obtain⟨b,g1,g2,g3⟩:=h3 i b' (by simpa using hb);exact⟨b,by simpa using g1,by rw[show n+(i+1)=n+1+i by omega]; exact g2,g3⟩
 | some b::r,n,k,h=>by
  simp only[Fk]at h;cases hg:oD base M n with
  | true=>
   rw[hg,ap8]at h;obtain⟨l',h1,h2,h3⟩:=lV r (n+1) _ h;refine⟨none::l',h1,by simp[h2],λi b' hb=>?_⟩;cases i with
   | zero=>simp at hb
   | succ i=>
    obtain⟨b,g1,g2,g3⟩:=h3 i b' (by simpa using hb);exact⟨b,by simpa using g1,by rw[show n+(i+1)=n+1+i by omega]; exact g2,g3⟩
  | false=>
   rw[hg,ap_]at h;obtain⟨b1,h0,hb1⟩:=Fj b _ h;obtain⟨l',h1,h2,h3⟩:=lV r (n+1) _ h0;refine⟨some b1::l',h1,by simp[h2],λi b' hb=>?_⟩;cases i with
   | zero=>simp at hb; subst hb; exact⟨b,rfl,hg,hb1⟩
   | succ i=>
    obtain⟨b,g1,g2,g3⟩:=h3 i b' (by simpa using hb);exact⟨b,by simpa using g1,by rw[show n+(i+1)=n+1+i by omega]; exact g2,g3⟩
theorem om {M:bh} {n:Nat} {b:Blk}:aE M n=some b↔M[n]? = some (some b):=by
 unfold aE;split
 ·rename_i b' h; simp[h]
 ·rename_i h;constructor
  ·intro h'; cases h'
  ·intro h'; exact absurd h' (h b)
theorem Fo {P:Program} {base:Nat} {s:St} {k:St->Bool} (h:afI P base s k=true) :
  ∃ s',k s'=true/\s'.M.length=s.M.length /\ ∀(G:Gh) (w:World) (ρ:Rho) (a:Act),G.base=base->Sim G w ρ s a->Sim G w ρ s' a:=by
 unfold afI at h;obtain⟨F,h1,h2,h3⟩:=ic s.F _ h;obtain⟨M,h4,h5,h6⟩:=lV s.M 0 _ h1;refine⟨⟨F,M⟩,h4,h5,λG w ρ a hG hs=>?_⟩;have hL:Ev base s.M (aE M):=by intro m hm;obtain⟨b',hb'⟩:=Option.isSome_iff_exists.1 hm;obtain⟨b,g1,g2,-⟩:=h6 m b' (om.1 hb');rw[om.2 g1];exact⟨rfl,by simpa using g2⟩
 have hlive:∀ m b',aE M m=some b' -> ∃ b,aE s.M m=some b/\adm base s.M b b':=by intro m b' hb';obtain⟨b,g1,-,g3⟩:=h6 m b' (om.1 hb');exact⟨b,om.2 g1,g3⟩
 refine⟨⟨λn b' hb'=>?_,λn m bn bm p q hn hm hp hq=>?_,hs.sim.own,hs.sim.size,hs.sim.os,hs.sim.tape,hs.sim.output,hs.sim.old,hs.sim.tab,hs.sim.high⟩,λn hn=>hs.dom n (by rw[<- h5]; exact hn),hs.defers,λt=>?_,?_,by rw[h5]; exact hs.base⟩
 ·obtain⟨b,hb,e1,e2,e3,hfz⟩:=hlive n b' hb';obtain⟨q,hq,hat⟩:=hs.sim.blks n b hb;refine⟨q,hq,?_⟩;cases q with
  | none=>show b'.c.size=0; rw[e3]; exact hat
  | some p=>
   obtain⟨cur,g1,g2,g3,g4,g5,g6⟩:=hat;exact⟨cur,by rw[e1]; exact g1,by rw[e2]; exact g2,by rw[e2,e3]; exact g3,g4,g5,hfz G w ρ _ cur hG hs.sim hL g6⟩
 ·obtain⟨b1,hb1,-⟩:=hlive n bn hn;obtain⟨b2,hb2,-⟩:=hlive m bm hm;exact hs.sim.inj n m b1 b2 p q hb1 hb2 hp hq
 ·show Rep _ w ρ (F.getD t .any) _;by_cases ht:t<F.length
  ·obtain⟨v,hv,hf⟩:=h3 t F[t] (List.getElem?_eq_getElem ht);have:=hs.fr t;rw[List.getD_eq_getElem?_getD,hv]at this;rw[List.getD_eq_getElem?_getD,List.getElem?_eq_getElem ht];exact hf G w ρ _ _ hG hs.sim hL this
  ·rw[List.getD_eq_getElem?_getD,List.getElem?_eq_none (by omega)];exact .any _
 ·rw[hs.size,h2]
def wl:List ResultVar->List Nat
 | []=>[]
 | .tmp t::r=>t::wl r
 | .cell t _::r=>t::wl r
def F_ (P:Program) (fn:Func) (r:V):V:=match r with
 | .tup vs=>.tup (fD P fn.resultTypes.toList vs)
 | v=>BZ P (fn.resultTypes.toList.headD 0) v
theorem B0 {P:Program} {fn:Func} {ok:Nat->Prop} {w:World} {ρ:Rho} {x:V} {v:Value} (h:Rep ok w ρ x v):Rep ok w ρ (F_ P fn x) v:=by
 unfold F_;split
 ·cases h with
  | tup _ us hl h2=>
   have:=nA (P:=P) fn.resultTypes.toList _ us ⟨hl,h2⟩;exact .tup _ us this.1 this.2
 ·exact rI _ h
def Od (P:Program) (base:Nat) (fn:Func) (s:St) (k:V->List Blk->Bool):Bool:=
 afI P base (nB P base (some ⟨wl fn.results.toList,[],[]⟩) s) λs'=>Fc P base fn.results.toList s' λr H=>k (F_ P fn r) H
theorem Fe {P:Program} {base:Nat} {fn:Func} {s:St} {k:V->List Blk->Bool} (hb:base<=s.M.length) (h:Od P base fn s k=true) :
  ∃ r H',k r H'=true /\ ∀(G:Gh) (w:World) (ρ:Rho) (a:Act),G.base=base->Sim G w ρ s a -> ∃ v ρ',(results fn a.tmps).run P w=.ok v w/\(∀ n q,n<base->ρ n=some q->ρ' n=some q)/\(∀ n,H'.length<=n->ρ' n=none) /\
   SimW G w ρ' (eX H')/\Rep (okc G ρ' (eX H')) w ρ' r v:=by
 unfold Od at h;obtain⟨n1,n2⟩:=iM (P:=P) (some ⟨wl fn.results.toList,[],[]⟩) s base hb;obtain⟨s',h1,h2,h3⟩:=Fo h;obtain⟨r,H',h4,h5⟩:=w5 (by rw[h2]; exact n1) h1;refine⟨_,H',h4,λG w ρ a hG hs=>?_⟩;obtain⟨ρ1,hs1,e1⟩:=n2 G w ρ a hG hs;obtain⟨v,ρ',g1,g2,g3,g4,g5⟩:=h5 G w ρ1 a hG (h3 G w ρ1 a hG hs1);exact⟨v,ρ',g1,λn q hn hq=>g2 n q hn (e1 n q hn hq),g3,g4,B0 g5⟩
def wM (cx:Cx) (an:Nat->Option Ann) (f:Nat) (args:List V) (H:List Blk) (k:V->List Blk->Bool):Bool:=
 match cx.P.funcs[f]? with
 | some fn=>match fn.body with
  | some c=>
   let fin:=λs=>Od cx.P H.length fn s k
   !(fn.name == "runtime.NumGoroutine")&&db cx H.length an c 0 ⟨args++List.replicate (fn.ntmps - args.length) .any,H.map some⟩ ⟨fin,λ_ _=>false,fin⟩
  | none=>false
 | none=>false
theorem CS {cx:Cx} (hO:ek cx.P cx.O) {an:Nat->Option Ann} {f:Nat} {args:List V} {H:List Blk} {k:V->List Blk->Bool} (hk:∀ fn c,cx.P.funcs[f]? = some fn->fn.body=some c->fQ cx H.length an c 0) (h:wM cx an f args H k=true) :
  ∃ r H',(Ok cx.P f args H r H'/\OkC cx.P f args H r H')/\k r H'=true:=by
 unfold wM at h;split at h
 ·rename_i fn hfn;split at h
  ·rename_i c hc;simp only at h;obtain⟨hname,h'⟩:=and_true h;have hname':¬ fn.name = "runtime.NumGoroutine":=by simpa using hname
   have hb0:H.length<=(H.map some).length:=by simp
   obtain⟨e,s',h1,h2,h3⟩:=dj hO c 0 _ _ (hk fn c hfn hc) hb0 h';have hend:Od cx.P H.length fn s' k=true/\(e=.normal\/e=.ret):=by
    cases e <;> simp[K.of]at h1
    ·exact⟨h1,.inl rfl⟩
    ·exact⟨h1,.inr rfl⟩
   obtain⟨r,H',hk,hfin⟩:=Fe h2 hend.1;refine⟨r,H',?_,hk⟩;have hok:OkC cx.P f args H r H':=by
    intro w ρ ok vs hsim hdom hargs;refine calls_of_wp hfn hc ?_;have hS:Sim (gh w H.length ok) w ρ ⟨args++List.replicate (fn.ntmps - args.length) .any,H.map some⟩ { tmps:=vs.toArray++Array.replicate (fn.ntmps - vs.toArray.size) undef,defers:=[] }:=by
     refine⟨hsim,λn hn=>hdom n (by simpa using hn),rfl,λt=>?_,by simp[hargs.1],by simp[gh]⟩;show Rep _ w ρ ((args++List.replicate (fn.ntmps - args.length) V.any).getD t .any) _;by_cases ht:t<args.length
     ·have htv:t<vs.length:=by rw[<- hargs.1]; exact ht
      have e1:(args++List.replicate (fn.ntmps - args.length) V.any).getD t .any=args[t]:=by rw[List.getD,List.getElem?_append_left ht]; simp[ht]
      have e2:(vs.toArray++Array.replicate (fn.ntmps - vs.toArray.size) undef).getD t undef=vs[t]:=by rw[Array.getD_eq_getD_getElem?,Array.getElem?_append_left (by simpa using htv)]; simp[htv]
      rw[e1,e2];exact hargs.2 t _ _ (by simp[ht]) (by simp[htv])
     ·have e1:(args++List.replicate (fn.ntmps - args.length) V.any).getD t .any=.any:=by rw[List.getD,List.getElem?_append_right (by omega),List.getElem?_replicate];split <;> rfl
      rw[e1]; exact .any _
    refine h3 (gh w H.length ok) w ρ _ rfl hS _ λw' ρ' a' hs' hr=>?_
    obtain⟨v,ρ'',g1,g2,g3,g4,g5⟩:=hfin (gh w H.length ok) w' ρ' a' rfl hs';have hpost:a'.defers=[] /\ ∃ v,(results fn a'.tmps).run cx.P w'=.ok v w' /\ ∃ v',Ending.returned v=.returned v' /\ ∃ ρ',(∀ n,n<H.length->ρ' n=ρ n)/\(∀ n,H'.length<=n->ρ' n=none)/\SimW (gh w H.length ok) w' ρ' (eX H')/\Rep (okc (gh w H.length ok) ρ' (eX H')) w' ρ' r v':=by refine⟨hs'.defers,v,g1,v,rfl,ρ'',λn hn=>?_,g3,g4,g5⟩;obtain⟨q,hq,_⟩:=hsim.blks n H[n] (kZ.2 (by simp[hn]));rw[hq,g2 n q hn (hr n q hn hq)]
    rcases hend.2 with rfl | rfl
    ·exact hpost
    ·exact hpost
   refine⟨?_,hok⟩;intro w ρ ok vs hsim hdom hargs o a N Q hN;have hrun:(callFunc f vs.toArray).run cx.P w=.ok (.enter f vs.toArray) w:=by simp[callFunc,hfn,hname',hc]
   rw[hrun,Oper.upon_enter];have hcalls:=hok w ρ ok vs hsim hdom hargs;refine hcalls.mono λe' w' he=>?_
   obtain⟨v,rfl,hv⟩:=he;exact hN v w' hv
  ·cases h
 ·cases h
theorem au {cx:Cx} (hO:ek cx.P cx.O) {f:Nat} (sh:FnSh) (S:List Atom->(V->List Blk->Bool)->Bool) (an:Nat->Option Ann) (n base:Nat) (hn:(lps cx.P f).length=n) (hk:∀ i,i<n->be cx base an (lp cx.P f i))
  (h:∀ a k,S a k=true -> ∃ H,sh.heap a=H.map some/\H.length=base/\wM cx an f (sh.args a) H k=true):ac cx.P f (az sh S):=by
 intro args H k hs;unfold az at hs;split at hs
 ·rename_i a ha;obtain⟨rfl,e2⟩:=FnSh.ext_build ha;obtain⟨H',g1,g2,g3⟩:=h a k hs;rw[g1]at e2;obtain rfl:=rF e2;have hks:∀ fn c,cx.P.funcs[f]? = some fn->fn.body=some c->fQ cx H.length an c 0:=λfn c hfn hc=>dQ c _ λp hp=>by
   have e:lps cx.P f=iL c 0:=by simp[lps,hfn,hc]
   rw[<- e]at hp;obtain⟨i,hi,rfl⟩:=aqo hp;have:=hk i (by omega);rw[<- g2]at this;unfold lp at this
   rwa [List.getD_eq_getElem?_getD,List.getElem?_eq_getElem hi]at this
  obtain⟨r,H2,h1,h2⟩:=CS hO hks g3;exact⟨r,H2,h1.1,h2⟩
 ·cases hs
theorem E0 (b:Nat):FRep (cP b) (.float .f64 b):=by
 unfold cP;cases h:isNaN b with
 | true=>exact⟨b,rfl,h⟩
 | false=>rfl
theorem rL {ok:Nat->Prop} {w:World} {ρ:Rho} {x:V} {vs:List Value} (h:RepL ok w ρ [x] vs):∃ v,vs=[v]/\Rep ok w ρ x v:=by
 obtain⟨h1,h2⟩:=h
 match vs,h1 with
 | [v],_=>exact⟨v,rfl,h2 0 x v rfl rfl⟩
theorem jE {P:Program} {f:Nat} {fn:Func} {e:Array Value->Sem Value} (hf:P.funcs[f]? = some fn) (hname:(fn.name == "runtime.NumGoroutine")=false)
  (hb:fn.body.isNone=true) (hn:Extern.findNext fn=none) (he:Extern.find fn=some e) (sh:FnSh) (S:List Atom->(V->List Blk->Bool)->Bool)
  (h:∀ a k,S a k=true->sh.heap a=[] /\ ∃ r,k r []=true /\ ∀(ok:Nat->Prop) (w:World) (ρ:Rho) (vs:List Value),RepL ok w ρ (sh.args a) vs -> ∃ v w',(e vs.toArray).run P w=.ok v w'/\(w'=w\/w'=w.drew)/\Rep ok w ρ r v):ac P f (az sh S):=by
 refine Dk λargs H k hs=>?_
 unfold az at hs;split at hs
 ·rename_i a ha;obtain⟨rfl,e2⟩:=FnSh.ext_build ha;obtain⟨g0,r,g1,g2⟩:=h a k hs;rw[g0]at e2;obtain rfl:H=[]:=by simpa using e2
  refine⟨r,g1,λok w ρ vs hv=>?_⟩;obtain⟨v,w',q1,q2,q3⟩:=g2 ok w ρ vs hv;refine⟨v,w',?_,q2,q3⟩;rw[run_callFunc_extern hf hname hb hn he,q1]; rfl
 ·cases hs
theorem yJ {P:Program} {f:Nat} {fn:Func} (hf:P.funcs[f]? = some fn) (hname:(fn.name == "runtime.NumGoroutine")=false)
  (hb:fn.body.isNone=true) (hn:Extern.findNext fn=none) (he:Extern.find fn=some Extern.MathFloatBits.float64frombits) :
  ac P f (az ⟨[.int .u64],[]⟩ λa k=>match a with | [.int n]=>k (.flt (cP n.toNat)) [] | _=>false):=by
 refine jE hf hname hb hn he _ _ λa k h=>?_
 split at h
 ·rename_i n;refine⟨rfl,_,h,λok w ρ vs hv=>?_⟩;obtain⟨v,rfl,hr⟩:=rL hv;obtain rfl:=hr.int_inv;exact⟨.float .f64 n.toNat,w,rfl,.inl rfl,.flt _ _ (E0 _)⟩
 ·cases h
theorem Oh {P:Program} {f:Nat} {fn:Func} (hf:P.funcs[f]? = some fn) (hname:(fn.name == "runtime.NumGoroutine")=false)
  (hb:fn.body.isNone=true) (hn:Extern.findNext fn=none) (he:Extern.find fn=some Extern.MathFloatBits.float64bits) :
  ac P f (az ⟨[.flt],[]⟩ λa k=>match a with | [.fl (some b)]=>k (.int .u64 b) [] | _=>false):=by
 refine jE hf hname hb hn he _ _ λa k h=>?_
 split at h
 ·rename_i b;refine⟨rfl,_,h,λok w ρ vs hv=>?_⟩;obtain⟨v,rfl,hr⟩:=rL hv;have hv:=hr.flt_inv;obtain rfl:v=.float .f64 b:=hv;exact⟨.int .u64 b,w,rfl,.inl rfl,.int _ _⟩
 ·cases h
theorem Oj {P:Program} {f:Nat} {fn:Func} (hf:P.funcs[f]? = some fn) (hname:(fn.name == "runtime.NumGoroutine")=false)
  (hb:fn.body.isNone=true) (hn:Extern.findNext fn=none) (he:Extern.find fn=some Extern.MathSqrt.sqrt) (hnan:∀ b,isNaN b=true->Ieee.double.sqrt b=none) :
  ac P f (az ⟨[.flt],[]⟩ λa k=>match a with | [.fl x]=>k (.flt (dm x)) [] | _=>false):=by
 refine jE hf hname hb hn he _ _ λa k h=>?_
 split at h
 ·rename_i x;refine⟨rfl,_,h,λok w ρ vs hv=>?_⟩;obtain⟨v,rfl,hr⟩:=rL hv;have hv:FRep x v:=hr.flt_inv;obtain⟨b,rfl⟩:=hv.float;have hs:Ieee.double.sqrt b=dm x:=by
   cases x with
   | none=>obtain⟨b',e,hb'⟩:=hv; cases e; rw[hnan _ hb']; rfl
   | some b'=>cases hv; rfl
  cases hq:dm x with
  | some r=>
   refine⟨.float .f64 r,w,?_,.inl rfl,.flt _ _ rfl⟩;rw[hq]at hs;have e1:Extern.MathSqrt.sqrt [Value.float .f64 b].toArray=(match Ieee.double.sqrt b with | some r=>pure (.float .f64 r) | none=>do pure (.float .f64 (<- choose (.nanBits .f64 b b)))):=rfl;rw[e1,hs]; rfl
  | none=>
   rw[hq]at hs;refine⟨.float .f64 ((Question.nanBits .f64 b b).cut (w.tape w.drawn (.nanBits .f64 b b))),w.drew,?_,.inr rfl,.flt _ _ ⟨_,rfl,ut _ _ _⟩⟩;have e1:Extern.MathSqrt.sqrt [Value.float .f64 b].toArray=(match Ieee.double.sqrt b with | some r=>pure (.float .f64 r) | none=>do pure (.float .f64 (<- choose (.nanBits .f64 b b)))):=rfl;rw[e1,hs]; simp[Question.forced]
 ·cases h
theorem BG {P:Program} {f:Nat} {fn:Func} (hf:P.funcs[f]? = some fn) (hname:(fn.name == "runtime.NumGoroutine")=false)
  (hb:fn.body.isNone=true) (hn:Extern.findNext fn=none) (he:Extern.find fn=some Extern.MathFloatBits.float64bits) :
  ac P f (az ⟨[.fb],[]⟩ λa k=>match a with | [.nat b]=>k (.int .u64 b) [] | _=>false):=by
 refine jE hf hname hb hn he _ _ λa k h=>?_
 split at h
 ·rename_i b;refine⟨rfl,_,h,λok w ρ vs hv=>?_⟩;obtain⟨v,rfl,hr⟩:=rL hv;have hv:Rep ok w ρ (.val (.float .f64 b)) v:=hr;cases hv;exact⟨.int .u64 b,w,rfl,.inl rfl,.int _ _⟩
 ·cases h
def RN:List V->List Value->List V
 | .flt _::r,v::vs=>.val v::RN r vs
 | a::r,_::vs=>a::RN r vs
 | r,[]=>r
 | [],_=>[]
theorem Db {ok:Nat->Prop} {w:World} {ρ:Rho}:∀(args:List V) (vs:List Value),RepL ok w ρ args vs->RepL ok w ρ (RN args vs) vs
 | [],vs,h=>by cases vs <;> exact h
 | a::r,[],h=>by cases a <;> exact h
 | a::r,v::vs,h=>by
  have hr:RepL ok w ρ r vs:=⟨by have:=h.1; simpa using this,λi c u hc hu=>h.2 (i+1) c u (by simpa using hc) (by simpa using hu)⟩
  have ih:=Db r vs hr;have ha:Rep ok w ρ a v:=h.2 0 a v rfl rfl;have key:∀ a',Rep ok w ρ a' v->RepL ok w ρ (a'::RN r vs) (v::vs):=by
   intro a' ha';refine⟨by have:=ih.1; simp[this],λi c u hc hu=>?_⟩;cases i with
   | zero=>simp at hc hu; subst hc; subst hu; exact ha'
   | succ i=>exact ih.2 i c u (by simpa using hc) (by simpa using hu)
  cases a <;> first | exact key _ (.val _) | exact key _ ha
theorem akY {P:Program} {f:Nat} {args:List V} {H:List Blk} {r:V} {H':List Blk} (h:∀ vs:List Value,(∀(i:Nat) x v,args[i]? = some (.flt x)->vs[i]? = some v->FRep x v)->args.length=vs.length->Ok P f (RN args vs) H r H'):Ok P f args H r H':=by intro w ρ ok vs hs hd ha;refine h vs (λi x v hx hv=>?_) ha.1 w ρ ok vs hs hd (Db args vs ha);have:=ha.2 i _ v hx hv;exact this.flt_inv
theorem xS {ok:Nat->Prop} {w:World} {ρ:Rho} {x y z:V} {vs:List Value} (h:RepL ok w ρ [x,y,z] vs):∃ u v t,vs=[u,v,t]/\Rep ok w ρ x u/\Rep ok w ρ y v/\Rep ok w ρ z t:=by
 obtain⟨h1,h2⟩:=h
 match vs,h1 with
 | [u,v,t],_=>exact⟨u,v,t,rfl,h2 0 x u rfl rfl,h2 1 y v rfl rfl,h2 2 z t rfl rfl⟩
def Ey:Array Value->Sem Value:=match Extern.MathBitsCarry.rows with
 | (_,e)::_=>e
 | []=>λ_=>pure .nilIface
def Il:Array Value->Sem Value:=match Extern.MathBitsCarry.rows with
 | _::(_,e)::_=>e
 | _=>λ_=>pure .nilIface
theorem AY {P:Program} {w:World} (nm:String) (k1 k2 k3:IntKind) (x y c:Int) (hc:c.toNat<=1):(Extern.MathBitsCarry.three nm #[.int k1 x,.int k2 y,.int k3 c]).run P w=.ok (x.toNat,y.toNat,c.toNat) w:=match c,hc with
 | .ofNat 0,_=>rfl
 | .ofNat 1,_=>rfl
 | .ofNat (n+2),h=>absurd h (by show ¬(n+2<=1); omega)
 | .negSucc n,_=>rfl
theorem OX {P:Program} {w:World} (k1 k2 k3:IntKind) (x y c:Int) (hc:c.toNat<=1):(Ey #[.int k1 x,.int k2 y,.int k3 c]).run P w=.ok (.tuple #[.int .u64 (((x.toNat+y.toNat+c.toNat)%18446744073709551616:Nat):Int),.int .u64 (((x.toNat+y.toNat+c.toNat) / 18446744073709551616:Nat):Int)]) w:=by simp only[Ey,Extern.MathBitsCarry.rows,Sem.run_bind,AY "Add64" k1 k2 k3 x y c hc,Result.andThen_ok,Sem.run_pure,Extern.MathBitsCarry.pair,Extern.MathBitsCarry.m64];rfl
theorem OY {P:Program} {w:World} (k1 k2 k3:IntKind) (x y c:Int) (hc:c.toNat<=1):(Il #[.int k1 x,.int k2 y,.int k3 c]).run P w=.ok (.tuple #[.int .u64 (((x.toNat+18446744073709551616 - y.toNat - c.toNat)%18446744073709551616:Nat):Int),.int .u64 (cond (decide (x.toNat<y.toNat+c.toNat)) 1 0)]) w:=by
 simp only[Il,Extern.MathBitsCarry.rows,Sem.run_bind,AY "Sub64" k1 k2 k3 x y c hc,Result.andThen_ok,Sem.run_pure,Extern.MathBitsCarry.pair,Extern.MathBitsCarry.m64];by_cases h:x.toNat<y.toNat+c.toNat
 ·simp[h]
 ·simp[h]
theorem Fr {P:Program} {f:Nat} {fn:Func} (hf:P.funcs[f]? = some fn) (hname:(fn.name == "runtime.NumGoroutine")=false)
  (hb:fn.body.isNone=true) (hn:Extern.findNext fn=none) (he:Extern.find fn=some Ey) :
  ac P f (az ⟨[.int .u64,.int .u64,.int .u64],[]⟩ λa k=>match a with
   | [.int x,.int y,.int c]=>(decide (c.toNat<=1))&&k (.tup [.int .u64 (((x.toNat+y.toNat+c.toNat)%18446744073709551616:Nat):Int),.int .u64 (((x.toNat+y.toNat+c.toNat) / 18446744073709551616:Nat):Int)]) []
   | _=>false):=by
 refine jE hf hname hb hn he _ _ λa k h=>?_
 split at h
 ·rename_i x y c;obtain⟨h1,h2⟩:=and_true h;refine⟨rfl,_,h2,λok w ρ vs hv=>?_⟩;obtain⟨u,v,t,rfl,r1,r2,r3⟩:=xS hv;obtain rfl:=r1.int_inv; obtain rfl:=r2.int_inv; obtain rfl:=r3.int_inv;exact⟨_,w,OX _ _ _ x y c (ap0 h1),.inl rfl,.tup _ [_,_] rfl λi a v ha hv=>by
   match i with
   | 0=>cases ha; cases hv; exact .int _ _
   | 1=>cases ha; cases hv; exact .int _ _
   | i+2=>cases ha⟩
 ·cases h
theorem Fv {P:Program} {f:Nat} {fn:Func} (hf:P.funcs[f]? = some fn) (hname:(fn.name == "runtime.NumGoroutine")=false)
  (hb:fn.body.isNone=true) (hn:Extern.findNext fn=none) (he:Extern.find fn=some Il) :
  ac P f (az ⟨[.int .u64,.int .u64,.int .u64],[]⟩ λa k=>match a with
   | [.int x,.int y,.int c]=>(decide (c.toNat<=1))&&k (.tup [.int .u64 (((x.toNat+18446744073709551616 - y.toNat - c.toNat)%18446744073709551616:Nat):Int),.int .u64 (cond (decide (x.toNat<y.toNat+c.toNat)) 1 0)]) []
   | _=>false):=by
 refine jE hf hname hb hn he _ _ λa k h=>?_
 split at h
 ·rename_i x y c;obtain⟨h1,h2⟩:=and_true h;refine⟨rfl,_,h2,λok w ρ vs hv=>?_⟩;obtain⟨u,v,t,rfl,r1,r2,r3⟩:=xS hv;obtain rfl:=r1.int_inv; obtain rfl:=r2.int_inv; obtain rfl:=r3.int_inv;exact⟨_,w,OY _ _ _ x y c (ap0 h1),.inl rfl,.tup _ [_,_] rfl λi a v ha hv=>by
   match i with
   | 0=>cases ha; cases hv; exact .int _ _
   | 1=>cases ha; cases hv; exact .int _ _
   | i+2=>cases ha⟩
 ·cases h
theorem aQ {i:Int} {n:Nat} (h1:0<=i) (h2:i<n):inR i n=true:=by unfold inR; simp; omega
theorem Fg (n:Int):aw .i64 n=true ↔ -9223372036854775808<=n/\n<=9223372036854775807:=by
 unfold aw;have e1:IntKind.min .i64 = -9223372036854775808:=by decide
 have e2:IntKind.max .i64=9223372036854775807:=by decide
 simp[e1,e2]
theorem Dw (b:Nat) (l c:Int):nx b l c=true↔0<=l/\l<=c/\c<=9223372036854775807/\(b:Int)*c<=140737488355328:=by unfold nx; simp
theorem Do {σ:Type} {step:σ->(σ->Bool)->Bool} (C:Nat->σ) (n:Nat) {N:Nat} (hn:n<N) {out:Bool} (hs:∀ i,i<n -> ∀ K:σ->Bool,step (C i) K=K (C (i+1))) (hx:∀ K,step (C n) K=out):aH N step (C 0)=out:=by
 have:∀ m,m<=n -> ∀ N,m<N->aH N step (C (n - m))=out:=by
  intro m;induction m with
  | zero=>
   intro _ N hN;cases N with
   | zero=>omega
   | succ N=>exact hx _
  | succ m ih=>
   intro hm N hN;cases N with
   | zero=>omega
   | succ N=>
    show step (C (n - (m+1))) (aH N step)=out;rw[hs (n - (m+1)) (by omega),show n - (m+1)+1=n - m by omega];exact ih (by omega) N (by omega)
 simpa using this n (ap1 _) N hn
end Go.Mach
end
section
namespace Go.Mach
open Ieee
def mF:Datum->Bool
 | .number ..=>true
 | _=>false
def ar:Fl->Bool
 | some b=>mF (Ieee.double.read b)
 | none=>false
theorem yI:feq (some 0) (some 0)=true:=by decide
theorem Cb (d:Datum):d.sum d.opposite=if mF d then some (.number false 0 (match d with | .number _ _ i=>i | _=>0))else none:=by
 cases d with
 | number s m i=>cases s <;> simp[Datum.opposite,Datum.sum,mF,signed,Int.add_comm,Int.add_right_neg]
 | infinity s=>cases s <;> simp[Datum.opposite,Datum.sum,mF]
 | nan s t=>simp[Datum.sum,mF]
theorem Iq (i:Int):Ieee.double.write (.number false 0 i)=0:=by simp[Format.write,Format.nearest,Format.word]
theorem Ff (x:Fl):feq (co x x) (some 0)=ar x:=by
 cases x with
 | none=>rfl
 | some b=>
  simp only[co,BC,ar,Format.sub,Cb];cases h:mF (Ieee.double.read b)with
  | true=>simp only[aqB,aqh,Iq]; exact yI
  | false=>simp[feq,lU]
def cls (b:Nat):Int:=
 if isNaN b then 1 else if b / 4503599627370496%2048=2047 then 2 else if b / 4503599627370496%2048=0 then(if b%4503599627370496=0 then 3 else 4)else 5
theorem Zz (b:Nat):(decide (cls b=1)||decide (cls b=2)) = !mF (Ieee.double.read b):=by
 have e1:Ieee.double.signWeight=9223372036854775808:=by decide
 have e2:Ieee.double.binade=4503599627370496:=by decide
 have e3:Ieee.double.infRung=9218868437227405312:=by decide
 have hn:=fA b;unfold cls Format.read;simp only[e1,e2,e3];by_cases h:isNaN b=true
 ·have h':=hn.1 h;have a1:¬(b%9223372036854775808<4503599627370496):=by omega
  have a2:¬(b%9223372036854775808<9218868437227405312):=by omega
  have a3:¬(b%9223372036854775808=9218868437227405312):=by omega
  simp[h,a1,a2,a3,mF]
 ·have h':¬(9218868437227405312<b%9223372036854775808):=λq=>h (hn.2 q)
  simp only[h,aqa,aqg];by_cases a3:b%9223372036854775808=9218868437227405312
  ·have c1:b / 4503599627370496%2048=2047:=by omega
   simp[c1,a3,mF]
  ·have c1:¬(b / 4503599627370496%2048=2047):=by omega
   by_cases a1:b%9223372036854775808<4503599627370496
   ·simp only[c1,a1,aqB,aqa,mF]; split <;> (try split) <;> simp
   ·have a2:b%9223372036854775808<9218868437227405312:=by omega
    simp only[c1,a1,a2,aqB,aqa,mF]; split <;> (try split) <;> simp
theorem fe (n:Nat) (h:n<18446744073709551616):IntKind.wrap .u64 (n:Int)=n:=by
 have:IntKind.wrap .u64 (n:Int)=(n:Int)%18446744073709551616:=by rfl
 rw[this]; omega
theorem dI (a k:Nat) (hk:k<=64):av .and .u64 (a:Int) ((2 ^ k - 1:Nat):Int)=((a%2 ^ k:Nat):Int):=by
 unfold av jV;simp only[aqs];have e:((BitVec.ofInt (IntKind.bits .u64) (a:Int)) &&& (BitVec.ofInt (IntKind.bits .u64) ((2 ^ k - 1:Nat):Int))).toNat=a%2 ^ k:=by show((BitVec.ofInt 64 (a:Int)) &&& (BitVec.ofInt 64 ((2 ^ k - 1:Nat):Int))).toNat=a%2 ^ k;rw[arg,aqL,aqL,aqu,aqu];have h1:2 ^ k<=2 ^ 64:=aqf (by decide) hk;have h0:0<2 ^ k:=ap7 k;rw[aqi (a:=2 ^ k - 1) (by omega),aqz,Nat.mod_mod_of_dvd];exact Nat.pow_dvd_pow 2 hk
 rw[e,fe];have h1:2 ^ k<=2 ^ 64:=aqf (by decide) hk;have:a%2 ^ k<2 ^ k:=aq8 _ (ap7 k);have:(2:Nat) ^ 64=18446744073709551616:=by decide
 omega
theorem h_ (a:Nat):av .andNot .u64 (a:Int) 9223372036854775808=((a%9223372036854775808:Nat):Int):=by
 unfold av jV;simp only[aqs];have e:((BitVec.ofInt (IntKind.bits .u64) (a:Int)) &&& ~~~(BitVec.ofInt (IntKind.bits .u64) (9223372036854775808:Int))).toNat=a%9223372036854775808:=by
  have hm : ~~~(BitVec.ofInt 64 (9223372036854775808:Int))=BitVec.ofNat 64 (2 ^ 63 - 1):=by decide
  show((BitVec.ofInt 64 (a:Int)) &&& ~~~(BitVec.ofInt 64 (9223372036854775808:Int))).toNat=a%9223372036854775808;rw[hm,arg,aqL,aqu,aqu,aqi (a:=2 ^ 63 - 1) (by decide),aqz,Nat.mod_mod_of_dvd];exact Nat.pow_dvd_pow 2 (by decide)
 rw[e,fe];omega
def wN:Fl->Int
 | some b=>cls b
 | none=>1
def cn:Fl->Fl
 | some b=>if isNaN b then none else some b
 | none=>none
def cW:Fl->Fl
 | some b=>cP (b%9223372036854775808)
 | none=>none
theorem CX (x:Fl):(decide (wN x=1)||decide (wN x=2)) = !ar x:=by
 cases x with
 | none=>rfl
 | some b=>exact Zz b
theorem Zy (x:Fl):1<=wN x:=by
 cases x with
 | none=>decide
 | some b=>show 1<=cls b; unfold cls; split <;> (try split) <;> (try split) <;> (try split) <;> decide
theorem aq {n:Int} (h1 : -9223372036854775808<=n) (h2:n<=9223372036854775807):aw .i64 n=true:=(Fg n).2 ⟨h1,h2⟩
theorem oq {b:Nat} {l c:Int} (h0:0<=l) (h1:l<=c) (h2:c<=9223372036854775807) (h3:(b:Int)*c<=140737488355328):nx b l c=true:=(Dw b l c).2 ⟨h0,h1,h2,h3⟩
theorem dT {p:Prop} [Decidable p] (h:p):decide p=true:=by simp[h]
theorem dZ {p:Prop} [Decidable p] (h:¬ p):decide p=false:=by simp[h]
def NR (p:Nat->Bool):Nat->Bool
 | 0=>true
 | n+1=>NR p n&&p n
theorem iE {p:Nat->Bool}:∀{n:Nat},NR p n=true ↔ ∀ i,i<n->p i=true
 | 0=>by simp[NR]
 | n+1=>by
  rw[NR,aqj,iE];constructor
  ·intro h i hi;by_cases e:i=n
   ·subst e; exact h.2
   ·exact h.1 i (by omega)
  ·intro h;exact⟨λi hi=>h i (by omega),h n (by omega)⟩
def NS (p:Nat->Bool) (n:Nat):Nat->Bool
 | 0=>true
 | m+1=>p (n - (m+1))&&NS p n m
theorem CN {p:Nat->Bool} {n:Nat}:∀{m:Nat},m<=n->(NS p n m=true ↔ ∀ i,n - m<=i->i<n->p i=true)
 | 0,_=>by simp only[NS,true_iff]; intro i h1 h2; omega
 | m+1,hm=>by
  rw[NS,aqj,CN (by omega)];constructor
  ·intro h i h1 h2;by_cases e:i=n - (m+1)
   ·subst e; exact h.1
   ·exact h.2 i (by omega) h2
  ·intro h;exact⟨h _ (by omega) (by omega),λi h1 h2=>h i (by omega) h2⟩
theorem uv {σ:Type} {step:σ->(σ->Bool)->Bool} (C:Nat->σ) (p:Nat->Bool) (n:Nat) {N:Nat} (hn:n<N) {ex out:Bool}
  (hs:∀ i,i<n -> ∀ K:σ->Bool,step (C i) K=cond (p i) (K (C (i+1))) ex) (hx:∀ K,step (C n) K=out):aH N step (C 0)=cond (NR p n) out ex:=by
 have key:∀ m,m<=n -> ∀ N,m<N->aH N step (C (n - m))=cond (NS p n m) out ex:=by
  intro m;induction m with
  | zero=>
   intro _ N hN;cases N with
   | zero=>omega
   | succ N=>exact hx _
  | succ m ih=>
   intro hm N hN;cases N with
   | zero=>omega
   | succ N=>
    show step (C (n - (m+1))) (aH N step)=_;have e:n - (m+1)+1=n - m:=by omega
    rw[hs (n - (m+1)) (by omega),e,ih (by omega) N (by omega),NS];cases p (n - (m+1)) <;> rfl
 have:=key n (ap1 _) N hn;rw[aqV]at this;rw[this];congr 1;rw[aq3,CN (ap1 _),iE];exact⟨λh i hi=>h i (by omega) hi,λh i _ hi=>h i hi⟩
end Go.Mach
end
section
namespace Go.Mach
open Ieee
theorem XO (b:Nat) (h:isNaN b=true):Ieee.double.sqrt b=none:=by obtain⟨s,g,e⟩:=nE h;simp[Ieee.Format.sqrt,e,Ieee.Datum.root]
theorem xd {P:Program} {f:Nat} {F:Fs} {sh:FnSh} (S:List Atom->(V->List Blk->Bool)->Bool) (R:Fl->V) (hF:ac P f F) (hsh:sh=⟨[.flt],[]⟩)
  (hS:∀ a k,S a k=true -> ∃ x,a=[.fl x]/\k (R x) []=true)
  (h:∀ b k,F [.val (.float .f64 b)] [] k=k (R (cn (some b))) []) (hR:∀ b,R (cn (some b))=R (some b)):ac P f (az sh S):=by
 subst hsh;intro args H k hk;unfold az at hk;split at hk
 ·rename_i a ha;obtain⟨x,rfl,hx⟩:=hS a k hk;obtain⟨rfl,e2⟩:=FnSh.ext_build ha;obtain rfl:H=[]:=by simpa [FnSh.heap,m8]using e2
  refine⟨R x,[],?_,hx⟩;refine akY λvs hv hl=>?_
  match vs,hl with
  | [v],_=>
   have hr:FRep x v:=hv 0 x v rfl rfl;obtain⟨b,rfl⟩:=hr.float;have hb:R x=R (cn (some b)):=by
    cases x with
    | none=>obtain⟨b',e,hb'⟩:=hr; cases e; simp[cn,hb']
    | some b'=>cases hr; exact(hR _).symm
   obtain⟨r,H',h1,h2⟩:=hF [.val (.float .f64 b)] [] (λr H=>@decide (r=R (cn (some b))/\H=[]) (Classical.propDecidable _)) (by rw[h]; simp);simp only[arb]at h2;obtain⟨rfl,rfl⟩:=h2;rw[hb];exact h1
 ·cases hk
end Go.Mach
end
section
namespace Go.Mach
open Go.ChangeShapes Go.WideShapes Go.ChangeAt Go.RowKit
section
variable {H:Type} {enc:TypeId × Value->H} {P:Program} {w:World} {sp:Nat->Bool} {held:Bool}
theorem uF {base:Nat} {t:TypeId} {k:IntKind} {n:Nat} {c:Value} {y:DataW H × List MemPlace} (ht:P.underlying t=some (.int k)) (h:DataW.trod enc P w base sp held n t [c]=some y):∃ z,c=.int k z/\(Lit.int k z).wf=true:=by obtain⟨z,h1,-,h3⟩:=DataW.trod_int ht h;cases h1;exact⟨z,rfl,h3⟩
end
theorem Bw {P:Program} {f:FuncId} {args:List V} {W:World} {vs:List Value} (h:OkC P f args [] (.bool true) []) (ht:∀ b zs,y6 b=some zs->TabAt W b zs) (hr:∀ ok:Nat->Prop,(∀ b,ok b)->RepL ok W (λ_=>none) args vs) :
  Calls P f vs.toArray W λe W'=>e=.returned (.bool true)/\Below W.heap.size W W':=by
 have hsim:SimW (gh W ([]:List Blk).length (λ_=>True)) W (λ_=>none) (eX []):=by
  refine⟨λn blk h=>?_,λn m bn bm p q h=>?_,λn p _ h=>(by cases h),ap1 _,rfl,rfl,rfl,λ_ _ _=>rfl,λb zs e=>⟨trivial,ht b zs e⟩,λn p h=>(by cases h)⟩
  ·simp[eX,aE]at h
  ·simp[eX,aE]at h
 refine(h W (λ_=>none) (λ_=>True) vs hsim (λ_ _=>rfl) (hr _ λb=>⟨.inl trivial,λn blk p h=>by simp[eX,aE]at h⟩)).mono λe W' hq=>?_
 obtain⟨v,rfl,ρ',-,-,hs,hv⟩:=hq;have e1:v=.bool true:=by cases hv; rfl
 subst e1;exact⟨rfl,hs.os,hs.tape,hs.output,hs.size,λb hb=>hs.old b hb λn p hn=>absurd hn (Nat.not_lt_zero n)⟩
def RQ:Code->List Code
 | .seq a b=>RQ a++RQ b
 | c=>[c]
def aB (cx:Cx) (base:Nat) (an:Nat->Option Ann):List Code->Nat->St->K->Bool
 | [],_,s,κ=>κ.nrm s
 | c::r,bid,s,κ=>db cx base an c bid s { κ with nrm:=λs'=>aB cx base an r bid s' κ }
theorem py (cx:Cx) (base:Nat) (an:Nat->Option Ann) (bid:Nat) (l2:List Code):∀(l1:List Code) (s:St) (κ:K),aB cx base an (l1++l2) bid s κ=aB cx base an l1 bid s { κ with nrm:=λs'=>aB cx base an l2 bid s' κ }
 | [],s,κ=>rfl
 | c::r,s,κ=>by simp only[ard,aB];congr 1;congr 1;funext s';exact py cx base an bid l2 r s' κ
theorem wO (cx:Cx) (base:Nat) (an:Nat->Option Ann):∀(c:Code) (bid:Nat) (s:St) (κ:K),db cx base an c bid s κ=aB cx base an (RQ c) bid s κ:=by
 intro c;induction c with
 | seq a b iha ihb=>
  intro bid s κ;rw[RQ,py,<- iha];simp only[db];congr 1;congr 1;funext s';exact ihb bid s' κ
 | _=>intros; rfl
def cds (P:Program) (f:Nat):List Code:=match P.funcs[f]? with
 | some fn=>match fn.body with
  | some c=>RQ c
  | none=>[]
 | none=>[]
def sg (P:Program) (f a n:Nat):List Code:=((cds P f).drop a).take n
theorem aP {cx:Cx} {base:Nat} {an:Nat->Option Ann} {P:Program} {f bid:Nat} (a n m:Nat) (h:a+n=m) (s:St) (κ:K) :
  aB cx base an ((cds P f).drop a) bid s κ=aB cx base an (sg P f a n) bid s { κ with nrm:=λs'=>aB cx base an ((cds P f).drop m) bid s' κ }:=by
 subst h;rw[<- py];congr 1;unfold sg;rw[<- List.drop_drop,List.take_append_drop]
def st0 (P:Program) (f:Nat) (args:List V) (H:List Blk):St:=match P.funcs[f]? with
 | some fn=>⟨args++List.replicate (fn.ntmps - args.length) .any,H.map some⟩
 | none=>⟨[],[]⟩
def bR (P:Program) (f base:Nat) (k:V->List Blk->Bool):K:=match P.funcs[f]? with
 | some fn=>⟨λs=>Fc P base fn.results.toList s k,λ_ _=>false,λs=>Fc P base fn.results.toList s k⟩
 | none=>⟨λ_=>false,λ_ _=>false,λ_=>false⟩
def uk (P:Program) (f base:Nat) (k:V->List Blk->Bool):K:=match P.funcs[f]? with
 | some fn=>⟨λs=>Od P base fn s k,λ_ _=>false,λs=>Od P base fn s k⟩
 | none=>⟨λ_=>false,λ_ _=>false,λ_=>false⟩
def okB (P:Program) (f:Nat):Bool:=match P.funcs[f]? with
 | some fn=>fn.body.isSome && !(fn.name == "runtime.NumGoroutine")
 | none=>false
theorem cX {cx:Cx} {an:Nat->Option Ann} {f:Nat} {args:List V} {H:List Blk} {k:V->List Blk->Bool} (h:okB cx.P f=true) :
  gm cx an f args H k=aB cx H.length an ((cds cx.P f).drop 0) 0 (st0 cx.P f args H) (bR cx.P f H.length k):=by
 unfold okB at h;unfold gm cds st0 bR;split at h
 ·rename_i fn hfn
  try rw[hfn]
  simp only[aqj]at h;obtain⟨c,hc⟩:=Option.isSome_iff_exists.1 h.1;simp only[hc,List.drop_zero];rw[h.2,Bool.true_and,wO]
 ·cases h
theorem u9 {cx:Cx} {an:Nat->Option Ann} {f:Nat} {args:List V} {H:List Blk} {k:V->List Blk->Bool} (h:okB cx.P f=true) :
  wM cx an f args H k=aB cx H.length an ((cds cx.P f).drop 0) 0 (st0 cx.P f args H) (uk cx.P f H.length k):=by
 unfold okB at h;unfold wM cds st0 uk;split at h
 ·rename_i fn hfn
  try rw[hfn]
  simp only[aqj]at h;obtain⟨c,hc⟩:=Option.isSome_iff_exists.1 h.1;simp only[hc,List.drop_zero];rw[h.2,Bool.true_and,wO]
 ·cases h
def dq (d:List V) (i:Nat):V:=d.getD i .any
def dqs (d:List V) (a:Nat):Nat->List V->List V
 | 0,tl=>tl
 | n+1,tl=>d.getD a .any::dqs d (a+1) n tl
def alx (K L:Int) (o:Oper):Oper:=match o.op with
 | .binOp .mul t x (.const (.int .u64 n)) t'=>{ o with op:=.binOp .mul t x (.const (.int .u64 (cond (n==K) L n))) t' }
 | _=>o
def Pe (K L:Int):Code->Code
 | .region i ops b=>.region i (ops.toList.map (alx K L)).toArray b
 | .seq a b=>.seq (Pe K L a) (Pe K L b)
 | .cond c a b=>.cond c (Pe K L a) (Pe K L b)
 | c=>c
end Go.Mach
end
