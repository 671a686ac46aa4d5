/- The machine. Conditions: none. -/
import Derived.Test.YtdinakfmablagaaGreatDoorMachT
set_option linter.unusedVariables false
section
namespace Go.Mach
open Go.ChangeShapes Go.WideShapes Go.ChangeAt Go.RowKit
def RT.wf:(t:RT)->t.Ty->Prop
 | .flt,x=>∀ b,x=some b->b<18446744073709551616
 | .int k,n=>(Lit.int k n).wf=true
 | .bool,_=>True
 | .fls,xs=>xs.length*8<=reachBytes /\ ∀ x ∈ xs,∀ b,x=some b->b<18446744073709551616
 | .ints k,xs=>xs.length*(k.bits / 8)<=reachBytes /\ ∀ n ∈ xs,(Lit.int k n).wf=true
 | .pair a b,p=>a.wf p.1/\b.wf p.2
 | .rows a,xs=>xs.length*8<=reachBytes /\ ∀ x ∈ xs,a.wf x
 | .ptr a,x=>a.wf x
def RT.meas:(t:RT)->t.Ty->Nat
 | .flt,_=>1
 | .int _,_=>1
 | .bool,_=>1
 | .fls,xs=>xs.length+1
 | .ints _,xs=>xs.length+1
 | .pair a b,p=>a.meas p.1+b.meas p.2
 | .rows a,xs=>(xs.map a.meas).sum+1
 | .ptr a,x=>a.meas x+1
mutual
def gw {H:Type}:DataW H->Nat
 | .lit (.string bytes)=>bytes.length+1
 | .lit _=>1
 | .nil=>1
 | .ptr d=>gw d+1
 | .slice elems spare=>nL elems+nL spare+1
 | .agg parts=>nL parts+1
 | .iface _ d=>gw d+1
 | .map _=>1
 | .held _=>1
def nL {H:Type}:List (DataW H)->Nat
 | []=>0
 | d::r=>gw d+nL r
end
theorem pO {H:Type} (d:DataW H):1<=gw d:=by
 cases d with
 | lit l=>cases l <;> simp[gw]
 | nil=>simp[gw]
 | ptr d=>simp[gw]
 | slice elems spare=>simp[gw]
 | agg parts=>simp[gw]
 | iface t d=>simp[gw]
 | map entries=>simp[gw]
 | held h=>simp[gw]
theorem qz {H:Type} (l:List (DataW H)):nL l=(l.map gw).sum:=by
 induction l with
 | nil=>rfl
 | cons d r ih=>simp[nL,ih]
def Rv (P:Program):Nat->List Field->Bool
 | _,[]=>true
 | o,f::r=>f.offset==o&&Rv P (o+P.cellsOf f.type) r
def szB (P:Program) (d t:Nat):Bool:=match Bt P d t with
 | some a=>a.sz==P.cellsOf t
 | none=>false
def Io (P:Program):Nat->Nat->Bool
 | 0,_=>false
 | d+1,t=>match P.underlying t with
  | some (.float .f64)=>true
  | some (.int _)=>true
  | some .bool=>true
  | some (.slice e)=>match P.underlying e with
   | some (.float .f64)=>P.cellsOf e==1&&P.bytesOf e==8
   | some (.int k)=>P.cellsOf e==1&&P.bytesOf e==k.bits / 8
   | _=>(decide (8<=P.bytesOf e)&&szB P d e)&&Io P d e
  | some (.struct fs)=>(fs.toList.all λf=>Io P d f.type&&szB P d f.type)&&(Rv P 0 fs.toList&&(fs.toList.map λf=>P.cellsOf f.type).sum==P.cellsOf t)
  | some (.array n e)=>(Io P d e&&szB P d e)&&n*P.cellsOf e==P.cellsOf t
  | _=>false
theorem Ad {α:Type} {p:Nat->α->Prop}:∀(n:Nat),(∀ i,i<n -> ∃ x,p i x) -> ∃ l:List α,l.length=n /\ ∀ i x,l[i]? = some x->p i x
 | 0,_=>⟨[],rfl,λi x h=>by simp at h⟩
 | n+1,h=>by
  obtain⟨l,h1,h2⟩:=Ad n λi hi=>h i (by omega)
  obtain⟨x,hx⟩:=h n (by omega);refine⟨l++[x],by simp[h1],λi y hy=>?_⟩;rw[List.getElem?_append]at hy;split at hy
  ·exact h2 i y hy
  ·have:i=n:=by have:=(List.getElem?_eq_some_iff.1 hy).1;simp at this; omega
   subst this;rw[h1,afT]at hy;simp at hy; subst hy; exact hx
section
variable {H:Type} {enc:TypeId × Value->H} {P:Program} {w:World} {base:Nat} {held:Bool}
theorem ot {e:TypeId}:∀{l:List (DataW H)} {d:DataW H},d ∈ l -> ∀ n ∈ d.weights P e,n ∈ DataW.weightsAll P e l
 | a::r,d,h,n,hn=>by
  rcases List.mem_cons.1 h with rfl | h
  ·simp[DataW.weightsAll,hn]
  ·simp[DataW.weightsAll,ot h n hn]
theorem KG {a:Addr} {v:Value} (h:w.cell? a=some v):a.spot=none/\a.block<w.heap.size:=by
 unfold World.cell? at h;split at h
 ·rename_i c t fr e;split at h
  ·cases h
  ·rename_i hs;refine⟨by simpa using hs,?_⟩;exact(Array.getElem?_eq_some_iff.1 e).1
 ·cases h
theorem ER {a:Addr} (h:a.spot=none) (i:Nat):a.add i=⟨a.block,a.off+i,none⟩:=by
 obtain⟨b,o,s⟩:=a;simp only at h; subst h;unfold Addr.add; split
 ·rename_i h0; subst h0; rfl
 ·rfl
theorem V4 {ok:Nat->Prop} {ρ:Rho} {as bs:List V} {us vs:List Value} (h1:RepL ok w ρ as us) (h2:RepL ok w ρ bs vs):RepL ok w ρ (as++bs) (us++vs):=by
 refine⟨by simp[h1.1,h2.1],λi c u hc hu=>?_⟩;rw[List.getElem?_append]at hc hu;rw[h1.1]at hc;split at hc
 ·rename_i h; rw[if_pos h]at hu; exact h1.2 i c u hc hu
 ·rename_i h; rw[if_neg h]at hu; exact h2.2 _ c u hc hu
theorem vZ {ok:Nat->Prop} {ρ:Rho} {x:V} {u:Value} (h:Rep ok w ρ x u):RepL ok w ρ [x] [u]:=by
 refine⟨rfl,λi c v hc hv=>?_⟩;cases i with
 | zero=>simp at hc hv; subst hc; subst hv; exact h
 | succ i=>simp at hc
abbrev Cn (w:World) (m:Nat) (rt:RT) (cs:List Value):Prop:=
 ∃ x:rt.Ty,(rt.wf x/\rt.meas x<=m)/\(∀ ok:Nat->Prop,(∀ b,ok b) -> ∀ ρ,RepL ok w ρ (rt.cells x) cs) /\ ∀ c ∈ cs,c.oneCell'=true
theorem vX:∀(ts:List RT) (css:List (List Value)) (ms:List Nat) (rt:RT),Gt ts=some rt->css.length=ts.length->ms.length=ts.length->(∀(i:Nat) t cs m,ts[i]? = some t->css[i]? = some cs->ms[i]? = some m->Cn w m t cs)->Cn w ms.sum rt css.flatten
 | [],_,_,_,h,_,_,_=>by cases h
 | [t],[cs],[m],rt,h,_,_,ho=>by
  cases h;have:=ho 0 t cs m rfl rfl rfl;simpa using this
 | t::t'::r,cs::css,m::ms,rt,h,hl,hm,ho=>by
  simp only[Gt,afQ]at h;obtain⟨q,hq,rfl⟩:=h;obtain⟨x,x1,x2,x3⟩:=ho 0 t cs m rfl rfl rfl;obtain⟨y,y1,y2,y3⟩:=vX (t'::r) css ms q hq (by simpa using hl) (by simpa using hm) λi t cs m ht hc hm=>ho (i+1) t cs m (by simpa using ht) (by simpa using hc) (by simpa using hm)
  refine⟨(x,y),⟨⟨x1.1,y1.1⟩,?_⟩,λok hok ρ=>V4 (x2 ok hok ρ) (y2 ok hok ρ),λc hc=>?_⟩
  ·show t.meas x+q.meas y<=_;rw[List.sum_cons]; have:=x1.2; have:=y1.2; omega
  ·rw[ahl]at hc;rcases List.mem_append.1 hc with hc | hc
   ·exact x3 c hc
   ·exact y3 c hc
theorem JP:∀(fs:List Field) (o:Nat),Rv P o fs=true -> ∀(cs:List Value),(o+(fs.map λf=>P.cellsOf f.type).sum<=cs.length)->(fs.map λf=>(cs.drop f.offset).take (P.cellsOf f.type)).flatten=(cs.drop o).take (fs.map λf=>P.cellsOf f.type).sum
 | [],o,_,cs,_=>by simp
 | f::r,o,h,cs,hl=>by simp only[Rv,afK,agX]at h;obtain⟨rfl,h⟩:=h;simp only[agl,List.sum_cons]at hl;rw[agl,ahl,JP r _ h cs (by omega),agl,List.sum_cons,List.take_add,List.drop_drop]
theorem NT {α:Type} (cs:List α) (c:Nat):∀ n,((List.range n).map λi=>(cs.drop (i*c)).take c).flatten=cs.take (n*c)
 | 0=>by simp
 | n+1=>by rw[List.range_succ,ag6,List.flatten_append,NT cs c n,afM,agQ,List.take_add]; simp
theorem C1 {α β:Type} {f:α->Option β}:∀{l:List α} {bs:List β},l.mapM f=some bs->bs.length=l.length /\ ∀(i:Nat) a b,l[i]? = some a->bs[i]? = some b->f a=some b
 | [],bs,h=>by simp at h; subst h; simp
 | a::r,bs,h=>by
  rw[List.mapM_cons]at h;simp only[bind,Option.bind_eq_some_iff,pure,afN]at h;obtain⟨b,hb,bs',hbs,rfl⟩:=h;obtain⟨h1,h2⟩:=C1 hbs;refine⟨by simp[h1],λi a' b' ha' hb'=>?_⟩;cases i with
  | zero=>simp at ha' hb'; subst ha'; subst hb'; exact hb
  | succ i=>exact h2 i a' b' (by simpa using ha') (by simpa using hb')
theorem Ht {α β:Type} {f:α->Option β} {o:Option α} {y:β} (h:o.bind f=some y):∃ x,o=some x/\f x=some y:=Option.bind_eq_some_iff.1 h
theorem BQ:∀{as bs:List Nat},as.length=bs.length->(∀(i:Nat) a b,as[i]? = some a->bs[i]? = some b->a<=b)->as.sum<=bs.sum
 | [],[],_,_=>afw _
 | a::as,b::bs,hl,h=>by
  have h0:=h 0 a b rfl rfl;have:=BQ (as:=as) (bs:=bs) (by simpa using hl) λi x y hx hy=>h (i+1) x y (by simpa using hx) (by simpa using hy)
  simp only[List.sum_cons]; omega
theorem LX {e:TypeId} {a:RT} {ad:Addr} {len cap n:Nat} {elems:List (DataW H × List MemPlace)} (hz:a.sz=P.cellsOf e) (hlen:elems.length=len)
  (hcap:len<=cap) (hel:∀ i,i<len->(w.cells? base (ad.add (i*P.cellsOf e)) (P.cellsOf e)).bind (DataW.trod enc P w base (λ_=>true) held n e)=elems[i]?)
  (ho:∀(i:Nat) cs y,elems[i]? = some y->DataW.trod enc P w base (λ_=>true) held n e cs=some y->cs.length=a.sz->Cn w (gw y.1) a cs) :
  ∃ xs:List a.Ty,xs.length=len/\((∀ x ∈ xs,a.wf x)/\(xs.map a.meas).sum<=nL (elems.map (·.1))) /\ ∀ ok:Nat->Prop,(∀ b,ok b) -> ∀ ρ,Rep ok w ρ (.rl a xs) (.slice (some ad) len cap):=by
 have hpos:=a.sz_pos;obtain⟨xs,h1,h2⟩:=Ad (p:=λi x=>∃ cs,w.cells? base (ad.add (i*a.sz)) a.sz=some cs/\(a.wf x /\ ∀ y,elems[i]? = some y->a.meas x<=gw y.1)/\(∀ ok:Nat->Prop,(∀ b,ok b) -> ∀ ρ,RepL ok w ρ (a.cells x) cs) /\ ∀ c ∈ cs,c.oneCell'=true) len λi hi=>by have hy:=hel i hi;rw[<- hz,List.getElem?_eq_getElem (by omega)]at hy;obtain⟨cs,hcs,hy⟩:=Ht hy;obtain⟨x,x1,x2,x3⟩:=ho i cs _ (List.getElem?_eq_getElem (by omega)) hy (World.cells?_some hcs).2.1;exact⟨x,cs,hcs,⟨x1.1,λy hy'=>by rw[List.getElem?_eq_getElem (by omega)]at hy'; cases hy'; exact x1.2⟩,x2,x3⟩
 refine⟨xs,h1,⟨λx hx=>?_,?_⟩,λok hok ρ=>.rl _ _ _ ?_⟩
 ·obtain⟨i,hi⟩:=List.getElem?_of_mem hx;obtain⟨cs,_,hw,_⟩:=h2 i x hi;exact hw.1
 ·rw[qz];refine BQ (by simp; omega) λi p q hp hq=>?_
  rw[List.getElem?_map,afQ]at hp;obtain⟨x,hx,rfl⟩:=hp;rw[List.getElem?_map,List.getElem?_map,afQ]at hq;obtain⟨z,hz',rfl⟩:=hq;rw[afQ]at hz';obtain⟨y,hy,rfl⟩:=hz';obtain⟨cs,_,hw,_⟩:=h2 i x hx;exact hw.2 y hy
 ·by_cases h0:len=0
  ·subst h0;obtain rfl:xs=[]:=afI h1;exact .ron _
  ·have hfirst:∃ v,w.cell? ad=some v:=by have hx0:xs[0]? = some xs[0]:=List.getElem?_eq_getElem (by omega);obtain⟨cs,hcs,_⟩:=h2 0 _ hx0;obtain⟨_,c2,c3⟩:=World.cells?_some hcs;have c3:=c3 0 hpos;rw[List.getElem?_eq_getElem (by omega),agE]at c3;exact⟨cs[0]'(by omega),c3⟩
   obtain⟨v0,hv0⟩:=hfirst;obtain⟨s1,s2⟩:=KG hv0;have hcell:∀ i,i<(a.flat xs).length -> ∃ u,w.cell? ⟨ad.block,ad.off+i,none⟩=some u/\u.oneCell'=true /\ ∀ c,(a.flat xs)[i]? = some c->Rep ok w ρ c u:=by
    intro i hi;rw[a.flat_length,h1]at hi;have hm:=afA i hpos;have hdm:i=i / a.sz*a.sz+i%a.sz:=by rw[afn]; exact(af_ i a.sz).symm
    have hd:i / a.sz<len:=(afs hpos).2 hi;have hx:xs[i / a.sz]? = some xs[i / a.sz]:=List.getElem?_eq_getElem (by omega);obtain⟨cs,hcs,_,hr,hone⟩:=h2 _ _ hx;obtain⟨_,c2,c3⟩:=World.cells?_some hcs;have c3:=c3 (i%a.sz) hm;rw[List.getElem?_eq_getElem (by omega)]at c3;rw[ER s1,ER rfl]at c3;simp only[afY]at c3;rw[<- hdm]at c3;refine⟨_,c3,hone _ (agv _),λc hc=>?_⟩;rw[hdm,a.flat_get _ _ _ hm,hx]at hc;exact(hr ok hok ρ).2 _ _ _ hc (List.getElem?_eq_getElem (by omega))
   have hch:∀ i,∃ u,i<(a.flat xs).length->w.cell? ⟨ad.block,ad.off+i,none⟩=some u/\u.oneCell'=true /\ ∀ c,(a.flat xs)[i]? = some c->Rep ok w ρ c u:=by
    intro i;by_cases hi:i<(a.flat xs).length
    ·obtain⟨u,hu⟩:=hcell i hi; exact⟨u,λ_=>hu⟩
    ·exact⟨default,λh=>absurd h hi⟩
   obtain⟨b,o,s⟩:=ad;simp only at s1 s2; subst s1;refine .ro a.sz _ b o len cap (λi=>Classical.choose (hch i)) (hok b) s2 (by rw[a.flat_length,h1]) hcap ?_ ?_ ?_
   ·exact λi hi=>(Classical.choose_spec (hch i) hi).1
   ·exact λi hi=>(Classical.choose_spec (hch i) hi).2.1
   ·intro i c hc;exact(Classical.choose_spec (hch i) (List.getElem?_eq_some_iff.1 hc).1).2.2 c hc
theorem Gi {α:Type} (f:α->Nat) (h:∀ x,f x=1) {l:List α}:(l.map f).sum=l.length:=by
 induction l with
 | nil=>rfl
 | cons a r ih=>simp[h a,ih]; omega
theorem FC (xs:List Fl):RT.flt.flat xs=xs.map .flt:=by
 induction xs with
 | nil=>rfl
 | cons x r ih=>show[V.flt x]++RT.flt.flat r=_; rw[ih]; rfl
theorem CE (k:IntKind) (xs:List Int):(RT.int k).flat xs=xs.map (.int k):=by
 induction xs with
 | nil=>rfl
 | cons x r ih=>show[V.int k x]++(RT.int k).flat r=_; rw[ih]; rfl
theorem V0 {ok:Nat->Prop} {ρ:Rho} {xs:List Fl} {v:Value} (h:Rep ok w ρ (.rl .flt xs) v):Rep ok w ρ (.rof xs) v:=by
 rcases h.rl_inv.ro_inv with⟨h0,ea,ec,rfl⟩ | ⟨b,o,len,cap,g,rfl,h1,h2,h3,h4,h5,h6,h7⟩
 ·rw[FC]at h0;obtain rfl:xs=[]:=by simpa using h0
  exact .rofn
 ·rw[FC]at h3 h5 h6 h7;have:len=xs.length:=by simpa [RT.sz]using h3
  subst this;refine .rof xs b o cap g h1 h2 h4 (λi hi=>h5 i (by simpa using hi)) λi x hx=>?_
  exact(h7 i (.flt x) (by simp[hx])).flt_inv
theorem V1 {ok:Nat->Prop} {ρ:Rho} {k:IntKind} {xs:List Int} {v:Value} (h:Rep ok w ρ (.rl (.int k) xs) v):Rep ok w ρ (.roi k xs) v:=by
 rcases h.rl_inv.ro_inv with⟨h0,ea,ec,rfl⟩ | ⟨b,o,len,cap,g,rfl,h1,h2,h3,h4,h5,h6,h7⟩
 ·rw[CE]at h0;obtain rfl:xs=[]:=by simpa using h0
  exact .roin k
 ·rw[CE]at h3 h5 h6 h7;have:len=xs.length:=by simpa [RT.sz]using h3
  subst this;refine .roi k xs b o cap h1 h2 h4 λi x hx=>?_
  have hi:i<xs.length:=(List.getElem?_eq_some_iff.1 hx).1;rw[h5 i (by simpa using hi),(h7 i (.int k x) (by simp[hx])).int_inv]
theorem C7 {t:TypeId} {n:Nat} {cs:List Value} {y:DataW H × List MemPlace} {sp:Nat->Bool} (ht:P.underlying t=some (.float .f64)) (h:DataW.trod enc P w base sp held n t cs=some y):Cn w (gw y.1) .flt cs:=by
 cases n with
 | zero=>simp[DataW.trod]at h
 | succ n=>
  unfold DataW.trod at h;rw[ht]at h;split at h <;> try (simp_all; done)
  rename_i k k' b e1;obtain rfl:k=.f64:=by cases e1; rfl
  split at h
  ·rename_i hc;obtain⟨rfl,hw⟩:=hc;cases h;have hb:b<18446744073709551616:=by simpa [Lit.wf]using hw
   refine⟨fp b,⟨λb' hb'=>?_,pO _⟩,λok hok ρ=>vZ (.flt _ _ (Az b)),by simp[Value.oneCell']⟩;unfold fp at hb';cases hn:isNaN b with
   | true=>rw[hn]at hb'; cases hb'
   | false=>rw[hn]at hb'; cases hb'; exact hb
  ·cases h
theorem zP:∀(d t:Nat) (rt:RT),Bt P d t=some rt->Io P d t=true -> ∀(fuel:Nat) (cs:List Value) (y:DataW H × List MemPlace),
  DataW.trod enc P w base (λ_=>true) held fuel t cs=some y->(∀ n ∈ y.1.weights P t,n<=reachBytes)->Cn w (gw y.1) rt cs
 | 0,_,_,h,_,_,_,_,_,_=>by cases h
 | d+1,t,rt,h,hl,fuel,cs,y,hy,hwt=>by
  unfold Bt at h;unfold Io at hl;split at h
  ·rename_i ht; cases h; exact C7 ht hy
  ·rename_i k ht; cases h;obtain⟨n,rfl,-,hw⟩:=DataW.trod_int ht hy;exact⟨n,⟨hw,pO _⟩,λok hok ρ=>vZ (.int k n),by simp[Value.oneCell']⟩
  ·rename_i ht; cases h;obtain⟨b,rfl,-⟩:=DataW.trod_bool ht hy;exact⟨b,⟨trivial,pO _⟩,λok hok ρ=>vZ (.bool b),by simp[Value.oneCell']⟩
  ·rename_i e ht;rw[ht]at hl;simp only at hl;have key:∀(a:RT),a.sz=P.cellsOf e->(∀ fuel cs y,DataW.trod enc P w base (λ_=>true) held fuel e cs=some y->(∀ n ∈ y.1.weights P e,n<=reachBytes)->Cn w (gw y.1) a cs) ->
     ∃ c,cs=[c]/\c.oneCell'=true /\ ∃ xs:List a.Ty,(xs.length*P.bytesOf e<=reachBytes/\(xs.map a.meas).sum+1<=gw y.1)/\(∀ x ∈ xs,a.wf x) /\ ∀ ok:Nat->Prop,(∀ b,ok b) -> ∀ ρ,Rep ok w ρ (.rl a xs) c:=by
    intro a hz ho;rcases DataW.trod_slice ht hy with⟨rfl,rfl⟩ | ⟨ad,len,cap,elems,rest,n,_,rfl,rfl,_,hcap,_,hlen,hel,_,_⟩
    ·exact⟨_,rfl,rfl,[],⟨by simp,pO _⟩,by simp,λok hok ρ=>.rl _ _ _ (.ron _)⟩
    ·have hmem:∀(i:Nat) z,elems[i]? = some z -> ∀ n ∈ z.1.weights P e,n<=reachBytes:=by intro i z hz n hn;refine hwt n ?_;simp only[DataW.weights,ht,agJ,ahQ];exact .inr (.inl (ot (List.mem_map.2 ⟨z,List.mem_of_getElem? hz,rfl⟩) n hn))
     obtain⟨xs,x1,x2,x3⟩:=LX hz hlen hcap hel λi cs z hz hcs _=>ho n cs z hcs (hmem i z hz)
     refine⟨_,rfl,rfl,xs,⟨?_,by have:=x2.2; simp only[gw]; omega⟩,x2.1,x3⟩;have:=hwt ((elems.length+rest.length)*P.bytesOf e) (by simp[DataW.weights,ht]);rw[x1,<- hlen];exact afG (afm _ (by omega)) this
   split at h
   ·rename_i he;cases h;rw[he]at hl;simp only[afK,agX]at hl;obtain⟨c,rfl,hc,xs,x1,x2,x3⟩:=key .flt (by simp[RT.sz,hl.1]) λfuel cs y hy _=>C7 he hy
    rw[hl.2]at x1;have x4:=x1.2;rw[Gi (RT.flt.meas) λ_=>rfl]at x4;exact⟨xs,⟨⟨x1.1,x2⟩,x4⟩,λok hok ρ=>vZ (V0 (x3 ok hok ρ)),by simpa using hc⟩
   ·rename_i k he;cases h;rw[he]at hl;simp only[afK,agX]at hl;obtain⟨c,rfl,hc,xs,x1,x2,x3⟩:=key (.int k) (by simp[RT.sz,hl.1]) λfuel cs y hy _=>by obtain⟨n,rfl,-,hw⟩:=DataW.trod_int he hy;exact⟨n,⟨hw,pO _⟩,λok hok ρ=>vZ (.int k n),by simp[Value.oneCell']⟩
    rw[hl.2]at x1;have x4:=x1.2;rw[Gi ((RT.int k).meas) λ_=>rfl]at x4;exact⟨xs,⟨⟨x1.1,x2⟩,x4⟩,λok hok ρ=>vZ (V1 (x3 ok hok ρ)),by simpa using hc⟩
   ·rename_i n1 n2;rw[afQ]at h;obtain⟨a,ha,rfl⟩:=h;have hl':(decide (8<=P.bytesOf e)&&szB P d e&&Io P d e)=true:=by
     split at hl
     ·rename_i q; exact absurd q n1
     ·rename_i k q; exact absurd q (n2 k)
     ·exact hl
    simp only[afK,ag3]at hl';obtain⟨⟨l1,l2⟩,l3⟩:=hl';unfold szB at l2;rw[ha]at l2;obtain⟨c,rfl,hc,xs,x1,x2,x3⟩:=key a (by simpa using l2) λfuel cs y hy hw=>zP d e a ha l3 fuel cs y hy hw
    exact⟨xs,⟨⟨afG (afq _ l1) x1.1,x2⟩,x1.2⟩,λok hok ρ=>vZ (x3 ok hok ρ),by simpa using hc⟩
  ·rename_i e ht;rw[ht]at hl; cases hl
  ·rename_i fs ht;rw[ht]at hl;simp only[afK,List.all_eq_true,agX]at hl;obtain⟨l1,l2,l3⟩:=hl;rw[Option.bind_eq_some_iff]at h;obtain⟨ts,hts,hp⟩:=h;obtain⟨t1,t2⟩:=C1 hts;obtain⟨ys,n,_,rfl,hcl,hyl,hat⟩:=DataW.trod_struct ht hy;have hyl':ys.length=fs.toList.length:=by rw[hyl]; simp
   have hcs:(fs.toList.map λf=>(cs.drop f.offset).take (P.cellsOf f.type)).flatten=cs:=by rw[JP _ 0 l2 cs (by omega),l3,<- hcl]; simp
   have:=vX (w:=w) ts (fs.toList.map λf=>(cs.drop f.offset).take (P.cellsOf f.type)) (ys.map λy=>gw y.1) rt hp (by simp[t1]) (by simp[t1,hyl']) λi a c m ha hc hm=>by
    rw[List.getElem?_map,afQ]at hc hm;obtain⟨f,hf,rfl⟩:=hc;obtain⟨y,hyi,rfl⟩:=hm;have hq:=t2 i f a hf ha;obtain⟨m1,m2⟩:=l1 f (List.mem_of_getElem? hf);have hf':fs[i]? = some f:=by simpa using hf
    have hy':=hat i f hf';rw[hyi]at hy';refine zP d f.type a hq m1 n _ _ hy' λm hm=>hwt m ?_
    simp only[DataW.weights,ht];exact DataW.weights_mem_each (j:=i) (t:=f.type) (d:=y.1) (by simp[hf']) (by simp[hyi]) m hm
   rw[hcs]at this;obtain⟨x,⟨x1,x2⟩,x3⟩:=this;refine⟨x,⟨x1,afG x2 ?_⟩,x3⟩;simp only[gw,qz,ahe];exact Nat.le_succ _
  ·rename_i n e ht;rw[ht]at hl;simp only[afK,agX]at hl;obtain⟨⟨l1,l2⟩,l3⟩:=hl;rw[Option.bind_eq_some_iff]at h;obtain⟨a,ha,hp⟩:=h;obtain⟨ys,m,_,rfl,hcl,hyl,hat⟩:=DataW.trod_array ht hy;have hcs:((List.range n).map λi=>(cs.drop (i*P.cellsOf e)).take (P.cellsOf e)).flatten=cs:=by rw[NT,l3,<- hcl]; simp
   have:=vX (w:=w) (List.replicate n a) ((List.range n).map λi=>(cs.drop (i*P.cellsOf e)).take (P.cellsOf e)) (ys.map λy=>gw y.1) rt hp (by simp) (by simp[hyl]) λi b c q hb hc hq=>by
    rw[List.getElem?_map,afQ]at hc hq;obtain⟨j,hj,rfl⟩:=hc;obtain⟨y,hyi,rfl⟩:=hq;have hi:i<n:=by have:=(List.getElem?_eq_some_iff.1 hj).1; simpa using this
    rw[List.getElem?_range hi]at hj;cases hj;rw[List.getElem?_replicate,if_pos hi]at hb;cases hb;have hy':=hat i hi;rw[hyi]at hy';refine zP d e a ha l1 m _ _ hy' λz hz=>hwt z ?_
    simp only[DataW.weights,ht];exact ot (List.mem_map.2 ⟨y,List.mem_of_getElem? hyi,rfl⟩) z hz
   rw[hcs]at this;obtain⟨x,⟨x1,x2⟩,x3⟩:=this;refine⟨x,⟨x1,afG x2 ?_⟩,x3⟩;simp only[gw,qz,ahe];exact Nat.le_succ _
  ·cases h
end
section
variable {H:Type} {enc:TypeId × Value->H} {P:Program} {w:World}
theorem LH {ok:Nat->Prop} {w:World} {ρ:Rho}:RepL ok w ρ [] []:=⟨rfl,λi u v hu _=>by simp at hu⟩
theorem qO {ok:Nat->Prop} {w:World} {ρ:Rho} {a:V} {x:Value} {us:List V} {xs:List Value} (h1:Rep ok w ρ a x) (h2:RepL ok w ρ us xs):RepL ok w ρ (a::us) (x::xs):=by
 refine⟨by simp[h2.1],λi u v hu hv=>?_⟩;cases i with
 | zero=>simp at hu hv; subst hu; subst hv; exact h1
 | succ i=>exact h2.2 i u v (by simpa using hu) (by simpa using hv)
def AM (P:Program) (t:Nat):Bool:=match P.underlying t with
 | some (.struct _)=>true
 | some (.array _ _)=>true
 | _=>false
def KA (P:Program) (t:Nat) (rt:RT) (x:rt.Ty):V:=cond (AM P t) (.agg (rt.cells x)) ((rt.cells x).headD .any)
theorem Ru {r:Reach} {b0:Nat} {t:TypeId} {v:Value} (ht:AM P t=false) (hval:Value.okWide P w r b0 t v):v.cells = #[v]:=by
 cases v with
 | agg cs=>
  exfalso;unfold AM at ht;unfold Value.okWide at hval;revert ht hval;cases hu:P.underlying t with
  | none=>intro _ hval; simp[Cell.okWide,Cell.ok,hu]at hval
  | some d=>cases d <;> simp[Cell.okWide,Cell.ok,hu]
 | _=>rfl
theorem w_ {r:Reach} {b0 base:Nat} {held:Bool} {t d:Nat} {rt:RT} {v:Value} {y:DataW H} {ps:List MemPlace} (hrt:Bt P d t=some rt) (hl:Io P d t=true)
  (hval:Value.okWide P w r b0 t v) (hd:DataW.Trod enc P w base (λ_=>true) held t v y ps) (hw:∀ n ∈ y.weights P t,n<=reachBytes) :
  ∃ x:rt.Ty,(rt.wf x/\rt.meas x<=gw y) /\ ∀ ok:Nat->Prop,(∀ b,ok b) -> ∀ ρ,Rep ok w ρ (KA P t rt x) v:=by
 obtain⟨fuel,hf⟩:=hd;obtain⟨x,x1,x2,x3⟩:=zP d t rt hrt hl fuel _ _ hf hw;refine⟨x,x1,λok hok ρ=>?_⟩;have hx:=x2 ok hok ρ;unfold KA;cases ha:AM P t with
 | true=>
  rw[afl];have:∃ cs:Array Value,v=.agg cs:=by
   unfold AM at ha;unfold Value.okWide at hval;split at ha
   ·rename_i e; rw[e]at hval; obtain⟨cs,h,-⟩:=hval; exact⟨cs,h⟩
   ·rename_i e; rw[e]at hval; obtain⟨cs,h,-⟩:=hval; exact⟨cs,h⟩
   ·cases ha
  obtain⟨cs,rfl⟩:=this;have e:(Value.cells (.agg cs))=cs:=rfl;rw[e]at hx x3;have:=Rep.agg (ok:=ok) (w:=w) (ρ:=ρ) (rt.cells x) cs.toList hx.1 (λv hv=>x3 v hv) hx.2;simpa using this
 | false=>
  rw[afk];rw[Ru ha hval]at hx;have hl1:(rt.cells x).length=1:=hx.1
  match hc:rt.cells x,hl1 with
  | [c],_=>
   rw[hc]at hx;exact hx.2 0 c v rfl rfl
theorem uF {ts:List TypeId} {ds:List (DataW H)} (h:(DataW.weightsEach P ts ds).all (· <= reachBytes)=true) {j:Nat} {t:TypeId} {d:DataW H} (ht:ts[j]? = some t) (hd:ds[j]? = some d):∀ n ∈ d.weights P t,n<=reachBytes:=
 λn hn=>by simpa using List.all_eq_true.1 h n (DataW.weights_mem_each ht hd n hn)
end
end Go.Mach
end
section
namespace Go.Mach
theorem ye {cx:Cx} (hO:OS cx) {g:Nat} {args:List V} {r:V} {H':List Blk} (h:∀ k:V->List Blk->Bool,kh cx (λ_=>none) g args [] k=k r H'):Ok cx.P g args [] r H':=by
 have hb:bO cx.P g (λargs H k=>kh cx (λ_=>none) g args H k):=by
  refine xM hO (lps cx.P g).length rfl λargs H k hs=>?_
  refine⟨λ_=>none,λi _=>?_,hs⟩;intro hk hh;cases hh
 obtain⟨r',H2,h1,h2⟩:=hb args [] (λv H=>@decide (v=r/\H=H') (Classical.propDecidable _)) ((h _).trans (by simp));simp only[ag3]at h2;obtain⟨rfl,rfl⟩:=h2;exact h1
theorem Rw {P:Program} {g:Nat} {args:List V} (b:Blk) (hb:b.c.size=0) (h:Ok P g args [] .nil []):Ok P g args [] (.slw 0) [b]:=by
 intro w ρ ok vs hsim hdom hargs o a N Q hN;refine h w ρ ok vs hsim hdom hargs o a N Q λv w' ⟨ρ',h1,h2,h3,h4⟩=>hN v w' ?_
 obtain⟨k1,k2⟩:=h3.virt 0 (h2 0 (aia _)) b hb;have e:eB [b]=aI (eB []) 0 (some b):=by
  funext n;cases n with
  | zero=>rfl
  | succ n=>simp[eB,aq,aI]
 refine⟨aK ρ' 0 none,λn hn=>absurd hn (Nat.not_lt_zero _),λn hn=>?_,by rw[e]; exact k1,?_⟩
 ·have:n ≠ 0:=by intro h; subst h; simp at hn
  simp[aK,this,h2 n (aia _)]
 ·cases h4;exact .slv _ (by simp[aK])
theorem HQ {cx:Cx} (hO:OS cx) {g e:Nat} (h0:∀(cap:Nat) (k:V->List Blk->Bool),kh cx (λ_=>none) g [.val (.slice none 0 cap)] [] k=k .nil [])
  (h1:∀(a:Addr) (cap:Nat) (k:V->List Blk->Bool),kh cx (λ_=>none) g [.val (.slice (some a) 0 cap)] [] k=k (.slw 0) [⟨e,1,.flts []⟩])
  (h2:∀(x:Fl) (xs:List Fl) (k:V->List Blk->Bool),kh cx (λ_=>none) g [.rof (x::xs)] [] k=(decide ((x::xs).length*8<=140737488355328)&&k (.slw 0) [⟨e,1,.flts (x::xs)⟩]))
  {sh:FnSh} (hsh:sh=⟨[.rof],[]⟩) (S:List Atom->(V->List Blk->Bool)->Bool)
  (hS:∀ a k,S a k=true -> ∃ xs,a=[.fls xs]/\xs.length*8<=140737488355328/\k (.slw 0) [⟨e,1,.flts xs⟩]=true):bO cx.P g (fe sh S):=by
 subst hsh;intro args H k hk;unfold fe at hk;split at hk
 ·rename_i a ha;obtain⟨xs,rfl,hl,hx⟩:=hS a k hk;obtain⟨rfl,e2⟩:=FnSh.ext_build ha;obtain rfl:H=[]:=by simpa [FnSh.heap,ki]using e2
  refine⟨_,_,?_,hx⟩;intro w ρ ok vs hsim hdom hargs;have hlen:=hargs.1
  match vs,hlen with
  | [v],_=>
   have hr:Rep (okc (gh w 0 ok) ρ (eB [])) w ρ (.rof xs) v:=hargs.2 0 (.rof xs) v rfl rfl;have one:∀ u:V,Rep (okc (gh w 0 ok) ρ (eB [])) w ρ u v->RepL (okc (gh w 0 ok) ρ (eB [])) w ρ [u] [v]:=by
    intro u hu;refine⟨rfl,λi c z hc hz=>?_⟩;cases i with
    | zero=>cases hc; cases hz; exact hu
    | succ i=>simp at hc
   have empty:∀(a:Option Addr) (cap:Nat),v=.slice a 0 cap->xs=[]->EM cx.P g [v].toArray w λv w'=>∃ ρ',(∀ n,n<([]:List Blk).length->ρ' n=ρ n)/\(∀ n,[(⟨e,1,.flts xs⟩:Blk)].length<=n->ρ' n=none)/\SimW (gh w ([]:List Blk).length ok) w' ρ' (eB [⟨e,1,.flts xs⟩])/\Rep (okc (gh w ([]:List Blk).length ok) ρ' (eB [⟨e,1,.flts xs⟩])) w' ρ' (.slw 0) v:=by
    intro a cap hv hxs;subst hxs;cases a with
    | none=>
     have hq:=Rw (⟨e,1,.flts []⟩:Blk) rfl (ye hO (g:=g) (h0 cap));exact hq w ρ ok [v] hsim hdom (one _ (by rw[hv]; exact .val _))
    | some a=>
     have hq:=ye hO (g:=g) (h1 a cap);exact hq w ρ ok [v] hsim hdom (one _ (by rw[hv]; exact .val _))
   cases xs with
   | nil=>
    cases hr with
    | rofn=>exact empty _ _ rfl rfl
    | rof _ b o cap g0 _ _ _ _ _=>exact empty _ _ rfl rfl
   | cons x xs=>
    have hq:=ye hO (g:=g) (args:=[.rof (x::xs)]) (r:=.slw 0) (H':=[⟨e,1,.flts (x::xs)⟩]) λk=>by rw[h2,afi hl,agq]
    exact hq w ρ ok [v] hsim hdom (one _ hr)
 ·cases hk
end Go.Mach
end
section
namespace Go.Mach
def QI:V->V->Bool
 | .any,.any=>true
 | .nil,.nil=>true
 | .bool a,.bool b=>a==b
 | .int k n,.int k' n'=>decide (k=k')&&decide (n=n')
 | .flt x,.flt y=>decide (x=y)
 | .ptr a b,.ptr c d=>a==c&&b==d
 | .slw a,.slw b=>a==b
 | .rof xs,.rof ys=>decide (xs=ys)
 | _,_=>false
theorem Av {a b:V} (h:QI a b=true):a=b:=by
 cases a <;> cases b <;> simp only[QI,af9,afK,ag3,agX]at h
 all_goals first
  | rfl
  | (obtain⟨h1,h2⟩:=h; subst h1; subst h2; rfl)
  | (subst h; rfl)
def Jq:List V->List V->Bool
 | [],[]=>true
 | a::as,b::bs=>QI a b&&Jq as bs
 | _,_=>false
theorem yO:∀{a b:List V},Jq a b=true->a=b
 | [],[],_=>rfl
 | a::as,b::bs,h=>by
  simp only[Jq,afK]at h;rw[Av h.1,yO h.2]
 | [],_::_,h=>by cases h
 | _::_,[],h=>by cases h
def eqV (a b:V):Bool:=match a,b with
 | .fn f cs,.fn g ds=>f==g&&Jq cs ds
 | a,b=>QI a b
theorem KS {a b:V} (h:eqV a b=true):a=b:=by
 unfold eqV at h;split at h
 ·rw[afK,agX]at h;rw[h.1,yO h.2]
 ·exact Av h
def Oe:List V->List V->Bool
 | [],[]=>true
 | a::as,b::bs=>eqV a b&&Oe as bs
 | _,_=>false
theorem vG:∀{a b:List V},Oe a b=true->a=b
 | [],[],_=>rfl
 | a::as,b::bs,h=>by
  simp only[Oe,afK]at h;rw[KS h.1,vG h.2]
 | [],_::_,h=>by cases h
 | _::_,[],h=>by cases h
def HG:Body->Body->Bool
 | .flts xs,.flts ys=>decide (xs=ys)
 | .ints k xs,.ints k' ys=>decide (k=k')&&decide (xs=ys)
 | .cells a,.cells b=>Oe a b
 | _,_=>false
theorem DB {a b:Body} (h:HG a b=true):a=b:=by
 cases a <;> cases b <;> simp only[HG,af9,afK,ag3]at h
 ·subst h; rfl
 ·obtain⟨h1,h2⟩:=h; subst h1; subst h2; rfl
 ·rw[vG h]
def Od:List Blk->List Blk->Bool
 | [],[]=>true
 | a::as,b::bs=>a.e==b.e&&(a.sz==b.sz&&(HG a.c b.c&&Od as bs))
 | _,_=>false
theorem qA:∀{a b:List Blk},Od a b=true->a=b
 | [],[],_=>rfl
 | ⟨e,s,c⟩::as,⟨e',s',c'⟩::bs,h=>by
  simp only[Od,afK,agX]at h;obtain⟨h1,h2,h3,h4⟩:=h;subst h1; subst h2;rw[DB h3,qA h4]
 | [],_::_,h=>by cases h
 | _::_,[],h=>by cases h
def frB (md:Nat) (H H':List Blk):Bool:=match md with
 | 0=>true
 | 1=>match H,H' with
  | ⟨e,sz,.cells (c::r)⟩::tl,⟨e',sz',.cells (c'::r')⟩::tl'=>e==e'&&(sz==sz'&&(Oe r r'&&Od tl tl'))
  | _,_=>false
 | _=>Od H' H
theorem CF {md:Nat} {H H':List Blk} (h:frB md H H'=true):FrB md H H':=by
 match md,h with
 | 0,_=>trivial
 | 1,h=>
  simp only[frB]at h;split at h
  ·rename_i e sz c r tl e' sz' c' r' tl';simp only[afK,agX]at h;obtain⟨h1,h2,h3,h4⟩:=h;subst h1; subst h2;have h3:=vG h3;have h4:=qA h4;subst h3; subst h4;exact⟨_,_,_,_,_,_,rfl,rfl⟩
  ·cases h
 | 2,h=>exact qA h
 | p+3,h=>
  have e:=qA h;rw[e];cases hp:H[p]? with
  | some b=>
   obtain⟨hl,e⟩:=List.getElem?_eq_some_iff.1 hp;exact⟨b,by rw[<- e,List.set_getElem_self]⟩
  | none=>exact⟨⟨0,0,.cells []⟩,(List.set_eq_of_length_le (List.getElem?_eq_none_iff.1 hp)).symm⟩
def J6 (md:Nat) (cx:Cx) (g:Nat):Fs:=λargs H k=>kh cx (λ_=>none) g args H (λv H'=>frB md H H'&&k v H')
theorem OA {cx:Cx} (hO:OS cx) (g:Nat):bO cx.P g (λargs H k=>kh cx (λ_=>none) g args H k):=by
 refine xM hO (lps cx.P g).length rfl λargs H k hs=>?_
 refine⟨λ_=>none,λi _=>?_,hs⟩;intro hk hh;cases hh
theorem K1 {cx:Cx} (hO:OS cx) (md g:Nat):bO cx.P g (J6 md cx g):=by intro args H k h;obtain⟨r,H',h1,h2⟩:=OA hO g args H _ h;rw[afK]at h2;exact⟨r,H',h1,h2.2⟩
open Classical in
theorem QO {cx:Cx} (md g:Nat):FrF md (J6 md cx g):=by
 intro args H k h;have e:(λ(v:V) (H':List Blk)=>frB md H H'&&(k v H'&&decide (FrB md H H')))=λv H'=>frB md H H'&&k v H':=by
  funext v H';cases hb:frB md H H' with
  | false=>rfl
  | true=>rw[afi (CF hb),ahB]
 unfold J6 at h ⊢;rw[e];exact h
end Go.Mach
end
section
namespace Go.Mach
def J5 (md:Nat) (cx:Cx) (g:Nat):Fs:=λargs H k=>Cs none cx (λ_=>none) g args H (λv H'=>frB md H H'&&k v H')
theorem HS {cx:Cx} (hO:OS cx) (hD:∀ g,g<1000000->cx.ref (2000000+g)=true->uJ cx.P g) (md g:Nat):bO cx.P g (J5 md cx g):=by intro args H k h;obtain⟨r,H',h1,h2⟩:=oA hO hD (λfn c _ _=>dE c 0 λp hp=>by intro hk hh; cases hh) h;rw[afK]at h2;exact⟨r,H',h1,h2.2⟩
open Classical in
theorem Ou {cx:Cx} (md g:Nat):FrF md (J5 md cx g):=by
 intro args H k h;have e:(λ(v:V) (H':List Blk)=>frB md H H'&&(k v H'&&decide (FrB md H H')))=λv H'=>frB md H H'&&k v H':=by
  funext v H';cases hb:frB md H H' with
  | false=>rfl
  | true=>rw[afi (CF hb),ahB]
 unfold J5 at h ⊢;rw[e];exact h
def upS (P:Program) (ref:Nat->Bool) (N:Nat) (df:Nat->Bool) (base:List (Nat × Fs)):List Nat->List (Nat × Fs)
 | []=>base
 | g::r=>(g,cond (df g) (J5 (mdR ref g) ⟨P,dH (upS P ref N df base r),ref,N⟩ g) (J6 (mdR ref g) ⟨P,dH (upS P ref N df base r),ref,N⟩ g))::upS P ref N df base r
theorem IY {P:Program} {ref:Nat->Bool} {N:Nat} {df:Nat->Bool} {base:List (Nat × Fs)} (h1:mM P (dH base)) (h2:FrL ref base) (hD:∀ g,g<1000000->ref (2000000+g)=true->uJ P g):∀ L,mM P (dH (upS P ref N df base L))/\FrL ref (upS P ref N df base L)
 | []=>⟨h1,h2⟩
 | g::r=>by
  obtain⟨i1,i2⟩:=IY h1 h2 hD r;have hO:OS ⟨P,dH (upS P ref N df base r),ref,N⟩:=JR i1 i2;refine⟨iM ?_ i1,?_,i2⟩
  ·cases hd:df g with
   | true=>rw[afl]; exact HS hO hD _ g
   | false=>rw[afk]; exact K1 hO _ g
  ·cases hd:df g with
   | true=>rw[afl]; exact Ou _ g
   | false=>rw[afk]; exact QO _ g
theorem WC {P:Program} {ref:Nat->Bool} {N:Nat} {df:Nat->Bool} {base:List (Nat × Fs)} (h1:mM P (dH base)) (h2:FrL ref base) (hD:∀ g,g<1000000->ref (2000000+g)=true->uJ P g) (L:List Nat):OS ⟨P,dH (upS P ref N df base L),ref,N⟩:=
 JR (IY h1 h2 hD L).1 (IY h1 h2 hD L).2
end Go.Mach
end
