/- The machine. Conditions: none. -/
import Derived.Test.YtpmoedfiobeilaaGreatDoorMachT
set_option linter.defProp false
set_option linter.unusedVariables false
section
namespace Go.Mach
open Go.ChangeShapes Go.WideShapes Go.ChangeAt Go.RowKit
def RT.wf:(t:RT)->t.Ty->Prop
 | .flt,x=>∀ b,x=some b->b<18446744073709551616
 | .int k,n=>(Lit.int k n).wf=true
 | .bool,_=>True
 | .fls,xs=>xs.length*8<=reachBytes /\ ∀ x ∈ xs,∀ b,x=some b->b<18446744073709551616
 | .ints k,xs=>xs.length*(k.bits / 8)<=reachBytes /\ ∀ n ∈ xs,(Lit.int k n).wf=true
 | .pair a b,p=>a.wf p.1/\b.wf p.2
 | .rows a,xs=>xs.length*8<=reachBytes /\ ∀ x ∈ xs,a.wf x
 | .ptr a,x=>a.wf x
def RT.meas:(t:RT)->t.Ty->Nat
 | .flt,_=>1
 | .int _,_=>1
 | .bool,_=>1
 | .fls,xs=>xs.length+1
 | .ints _,xs=>xs.length+1
 | .pair a b,p=>a.meas p.1+b.meas p.2
 | .rows a,xs=>(xs.map a.meas).sum+1
 | .ptr a,x=>a.meas x+1
mutual
def bU {H:Type}:DataW H->Nat
 | .lit (.string bytes)=>bytes.length+1
 | .lit _=>1
 | .nil=>1
 | .ptr d=>bU d+1
 | .slice elems spare=>gZ elems+gZ spare+1
 | .agg parts=>gZ parts+1
 | .iface _ d=>bU d+1
 | .map _=>1
 | .held _=>1
def gZ {H:Type}:List (DataW H)->Nat
 | []=>0
 | d::r=>bU d+gZ r
end
def nZ {H:Type} (d:DataW H):1<=bU d:=by
 cases d with
 | lit l=>cases l <;> simp[bU]
 | nil=>simp[bU]
 | ptr d=>simp[bU]
 | slice elems spare=>simp[bU]
 | agg parts=>simp[bU]
 | iface t d=>simp[bU]
 | map entries=>simp[bU]
 | held h=>simp[bU]
def oZ {H:Type} (l:List (DataW H)):gZ l=(l.map bU).sum:=by
 induction l with
 | nil=>rfl
 | cons d r ih=>simp[gZ,ih]
def N3 (P:Program):Nat->List Field->Bool
 | _,[]=>true
 | o,f::r=>f.offset==o&&N3 P (o+P.cellsOf f.type) r
def szB (P:Program) (d t:Nat):Bool:=match zw P d t with
 | some a=>a.sz==P.cellsOf t
 | none=>false
def FM (P:Program):Nat->Nat->Bool
 | 0,_=>false
 | d+1,t=>match P.underlying t with
  | some (.float .f64)=>true
  | some (.int _)=>true
  | some .bool=>true
  | some (.slice e)=>match P.underlying e with
   | some (.float .f64)=>P.cellsOf e==1&&P.bytesOf e==8
   | some (.int k)=>P.cellsOf e==1&&P.bytesOf e==k.bits / 8
   | _=>(decide (8<=P.bytesOf e)&&szB P d e)&&FM P d e
  | some (.struct fs)=>(fs.toList.all λf=>FM P d f.type&&szB P d f.type)&&(N3 P 0 fs.toList&&(fs.toList.map λf=>P.cellsOf f.type).sum==P.cellsOf t)
  | some (.array n e)=>(FM P d e&&szB P d e)&&n*P.cellsOf e==P.cellsOf t
  | _=>false
def ye {α:Type} {p:Nat->α->Prop}:∀(n:Nat),(∀ i,i<n -> ∃ x,p i x) -> ∃ l:List α,l.length=n /\ ∀ i x,l[i]? = some x->p i x
 | 0,_=>⟨[],rfl,λi x h=>by simp at h⟩
 | n+1,h=>by
  obtain⟨l,h1,h2⟩:=ye n λi hi=>h i (by omega)
  obtain⟨x,hx⟩:=h n (by omega);refine⟨l++[x],by simp[h1],λi y hy=>?_⟩;rw[List.getElem?_append]at hy;split at hy
  ·exact h2 i y hy
  ·have:i=n:=by have:=(List.getElem?_eq_some_iff.1 hy).1;simp at this; omega
   subst this;rw[h1,adX]at hy;simp at hy; subst hy; exact hx
section
variable {H:Type} {enc:TypeId × Value->H} {P:Program} {w:World} {base:Nat} {held:Bool}
def nc {e:TypeId}:∀{l:List (DataW H)} {d:DataW H},d ∈ l -> ∀ n ∈ d.weights P e,n ∈ DataW.weightsAll P e l
 | a::r,d,h,n,hn=>by
  rcases List.mem_cons.1 h with rfl | h
  ·simp[DataW.weightsAll,hn]
  ·simp[DataW.weightsAll,nc h n hn]
def HW {a:Addr} {v:Value} (h:w.cell? a=some v):a.spot=none/\a.block<w.heap.size:=by
 unfold World.cell? at h;split at h
 ·rename_i c t fr e;split at h
  ·cases h
  ·rename_i hs;refine⟨by simpa using hs,?_⟩;exact(Array.getElem?_eq_some_iff.1 e).1
 ·cases h
def Cy {a:Addr} (h:a.spot=none) (i:Nat):a.add i=⟨a.block,a.off+i,none⟩:=by
 obtain⟨b,o,s⟩:=a;simp only at h; subst h;unfold Addr.add; split
 ·rename_i h0; subst h0; rfl
 ·rfl
def Sd {ok:Nat->Prop} {ρ:Rho} {as bs:List V} {us vs:List Value} (h1:RepL ok w ρ as us) (h2:RepL ok w ρ bs vs):RepL ok w ρ (as++bs) (us++vs):=by
 refine⟨by simp[h1.1,h2.1],λi c u hc hu=>?_⟩;rw[List.getElem?_append]at hc hu;rw[h1.1]at hc;split at hc
 ·rename_i h; rw[if_pos h]at hu; exact h1.2 i c u hc hu
 ·rename_i h; rw[if_neg h]at hu; exact h2.2 _ c u hc hu
def ua {ok:Nat->Prop} {ρ:Rho} {x:V} {u:Value} (h:Rep ok w ρ x u):RepL ok w ρ [x] [u]:=by
 refine⟨rfl,λi c v hc hv=>?_⟩;cases i with
 | zero=>simp at hc hv; subst hc; subst hv; exact h
 | succ i=>simp at hc
abbrev Ao (w:World) (m:Nat) (rt:RT) (cs:List Value):Prop:=
 ∃ x:rt.Ty,(rt.wf x/\rt.meas x<=m)/\(∀ ok:Nat->Prop,(∀ b,ok b) -> ∀ ρ,RepL ok w ρ (rt.cells x) cs) /\ ∀ c ∈ cs,c.oneCell'=true
def tY:∀(ts:List RT) (css:List (List Value)) (ms:List Nat) (rt:RT),DU ts=some rt->css.length=ts.length->ms.length=ts.length->(∀(i:Nat) t cs m,ts[i]? = some t->css[i]? = some cs->ms[i]? = some m->Ao w m t cs)->Ao w ms.sum rt css.flatten
 | [],_,_,_,h,_,_,_=>by cases h
 | [t],[cs],[m],rt,h,_,_,ho=>by
  cases h;have:=ho 0 t cs m rfl rfl rfl;simpa using this
 | t::t'::r,cs::css,m::ms,rt,h,hl,hm,ho=>by
  simp only[DU,adP]at h;obtain⟨q,hq,rfl⟩:=h;obtain⟨x,x1,x2,x3⟩:=ho 0 t cs m rfl rfl rfl;obtain⟨y,y1,y2,y3⟩:=tY (t'::r) css ms q hq (by simpa using hl) (by simpa using hm) λi t cs m ht hc hm=>ho (i+1) t cs m (by simpa using ht) (by simpa using hc) (by simpa using hm)
  refine⟨(x,y),⟨⟨x1.1,y1.1⟩,?_⟩,λok hok ρ=>Sd (x2 ok hok ρ) (y2 ok hok ρ),λc hc=>?_⟩
  ·show t.meas x+q.meas y<=_;rw[List.sum_cons]; have:=x1.2; have:=y1.2; omega
  ·rw[afj]at hc;rcases List.mem_append.1 hc with hc | hc
   ·exact x3 c hc
   ·exact y3 c hc
def G_:∀(fs:List Field) (o:Nat),N3 P o fs=true -> ∀(cs:List Value),(o+(fs.map λf=>P.cellsOf f.type).sum<=cs.length)->(fs.map λf=>(cs.drop f.offset).take (P.cellsOf f.type)).flatten=(cs.drop o).take (fs.map λf=>P.cellsOf f.type).sum
 | [],o,_,cs,_=>by simp
 | f::r,o,h,cs,hl=>by simp only[N3,aea,afl]at h;obtain⟨rfl,h⟩:=h;simp only[aeo,List.sum_cons]at hl;rw[aeo,afj,G_ r _ h cs (by omega),aeo,List.sum_cons,List.take_add,List.drop_drop]
def KG {α:Type} (cs:List α) (c:Nat):∀ n,((List.range n).map λi=>(cs.drop (i*c)).take c).flatten=cs.take (n*c)
 | 0=>by simp
 | n+1=>by rw[List.range_succ,ae4,List.flatten_append,KG cs c n,adQ,afn,List.take_add]; simp
def AX {α β:Type} {f:α->Option β}:∀{l:List α} {bs:List β},l.mapM f=some bs->bs.length=l.length /\ ∀(i:Nat) a b,l[i]? = some a->bs[i]? = some b->f a=some b
 | [],bs,h=>by simp at h; subst h; simp
 | a::r,bs,h=>by
  rw[List.mapM_cons]at h;simp only[bind,Option.bind_eq_some_iff,pure,adM]at h;obtain⟨b,hb,bs',hbs,rfl⟩:=h;obtain⟨h1,h2⟩:=AX hbs;refine⟨by simp[h1],λi a' b' ha' hb'=>?_⟩;cases i with
  | zero=>simp at ha' hb'; subst ha'; subst hb'; exact hb
  | succ i=>exact h2 i a' b' (by simpa using ha') (by simpa using hb')
def EU {α β:Type} {f:α->Option β} {o:Option α} {y:β} (h:o.bind f=some y):∃ x,o=some x/\f x=some y:=Option.bind_eq_some_iff.1 h
def zM:∀{as bs:List Nat},as.length=bs.length->(∀(i:Nat) a b,as[i]? = some a->bs[i]? = some b->a<=b)->as.sum<=bs.sum
 | [],[],_,_=>adx _
 | a::as,b::bs,hl,h=>by
  have h0:=h 0 a b rfl rfl;have:=zM (as:=as) (bs:=bs) (by simpa using hl) λi x y hx hy=>h (i+1) x y (by simpa using hx) (by simpa using hy)
  simp only[List.sum_cons]; omega
def I1 {e:TypeId} {a:RT} {ad:Addr} {len cap n:Nat} {elems:List (DataW H × List MemPlace)} (hz:a.sz=P.cellsOf e) (hlen:elems.length=len)
  (hcap:len<=cap) (hel:∀ i,i<len->(w.cells? base (ad.add (i*P.cellsOf e)) (P.cellsOf e)).bind (DataW.trod enc P w base (λ_=>true) held n e)=elems[i]?)
  (ho:∀(i:Nat) cs y,elems[i]? = some y->DataW.trod enc P w base (λ_=>true) held n e cs=some y->cs.length=a.sz->Ao w (bU y.1) a cs) :
  ∃ xs:List a.Ty,xs.length=len/\((∀ x ∈ xs,a.wf x)/\(xs.map a.meas).sum<=gZ (elems.map (·.1))) /\ ∀ ok:Nat->Prop,(∀ b,ok b) -> ∀ ρ,Rep ok w ρ (.rl a xs) (.slice (some ad) len cap):=by
 have hpos:=a.sz_pos;obtain⟨xs,h1,h2⟩:=ye (p:=λi x=>∃ cs,w.cells? base (ad.add (i*a.sz)) a.sz=some cs/\(a.wf x /\ ∀ y,elems[i]? = some y->a.meas x<=bU y.1)/\(∀ ok:Nat->Prop,(∀ b,ok b) -> ∀ ρ,RepL ok w ρ (a.cells x) cs) /\ ∀ c ∈ cs,c.oneCell'=true) len λi hi=>by have hy:=hel i hi;rw[<- hz,List.getElem?_eq_getElem (by omega)]at hy;obtain⟨cs,hcs,hy⟩:=EU hy;obtain⟨x,x1,x2,x3⟩:=ho i cs _ (List.getElem?_eq_getElem (by omega)) hy (World.cells?_some hcs).2.1;exact⟨x,cs,hcs,⟨x1.1,λy hy'=>by rw[List.getElem?_eq_getElem (by omega)]at hy'; cases hy'; exact x1.2⟩,x2,x3⟩
 refine⟨xs,h1,⟨λx hx=>?_,?_⟩,λok hok ρ=>.rl _ _ _ ?_⟩
 ·obtain⟨i,hi⟩:=List.getElem?_of_mem hx;obtain⟨cs,_,hw,_⟩:=h2 i x hi;exact hw.1
 ·rw[oZ];refine zM (by simp; omega) λi p q hp hq=>?_
  rw[List.getElem?_map,adP]at hp;obtain⟨x,hx,rfl⟩:=hp;rw[List.getElem?_map,List.getElem?_map,adP]at hq;obtain⟨z,hz',rfl⟩:=hq;rw[adP]at hz';obtain⟨y,hy,rfl⟩:=hz';obtain⟨cs,_,hw,_⟩:=h2 i x hx;exact hw.2 y hy
 ·by_cases h0:len=0
  ·subst h0;obtain rfl:xs=[]:=adJ h1;exact .ron _
  ·have hfirst:∃ v,w.cell? ad=some v:=by have hx0:xs[0]? = some xs[0]:=List.getElem?_eq_getElem (by omega);obtain⟨cs,hcs,_⟩:=h2 0 _ hx0;obtain⟨_,c2,c3⟩:=World.cells?_some hcs;have c3:=c3 0 hpos;rw[List.getElem?_eq_getElem (by omega),aeN]at c3;exact⟨cs[0]'(by omega),c3⟩
   obtain⟨v0,hv0⟩:=hfirst;obtain⟨s1,s2⟩:=HW hv0;have hcell:∀ i,i<(a.flat xs).length -> ∃ u,w.cell? ⟨ad.block,ad.off+i,none⟩=some u/\u.oneCell'=true /\ ∀ c,(a.flat xs)[i]? = some c->Rep ok w ρ c u:=by
    intro i hi;rw[a.flat_length,h1]at hi;have hm:=adA i hpos;have hdm:i=i / a.sz*a.sz+i%a.sz:=by rw[ado]; exact(aeh i a.sz).symm
    have hd:i / a.sz<len:=(adu hpos).2 hi;have hx:xs[i / a.sz]? = some xs[i / a.sz]:=List.getElem?_eq_getElem (by omega);obtain⟨cs,hcs,_,hr,hone⟩:=h2 _ _ hx;obtain⟨_,c2,c3⟩:=World.cells?_some hcs;have c3:=c3 (i%a.sz) hm;rw[List.getElem?_eq_getElem (by omega)]at c3;rw[Cy s1,Cy rfl]at c3;simp only[ad5]at c3;rw[<- hdm]at c3;refine⟨_,c3,hone _ (aey _),λc hc=>?_⟩;rw[hdm,a.flat_get _ _ _ hm,hx]at hc;exact(hr ok hok ρ).2 _ _ _ hc (List.getElem?_eq_getElem (by omega))
   have hch:∀ i,∃ u,i<(a.flat xs).length->w.cell? ⟨ad.block,ad.off+i,none⟩=some u/\u.oneCell'=true /\ ∀ c,(a.flat xs)[i]? = some c->Rep ok w ρ c u:=by
    intro i;by_cases hi:i<(a.flat xs).length
    ·obtain⟨u,hu⟩:=hcell i hi; exact⟨u,λ_=>hu⟩
    ·exact⟨default,λh=>absurd h hi⟩
   obtain⟨b,o,s⟩:=ad;simp only at s1 s2; subst s1;refine .ro a.sz _ b o len cap (λi=>Classical.choose (hch i)) (hok b) s2 (by rw[a.flat_length,h1]) hcap ?_ ?_ ?_
   ·exact λi hi=>(Classical.choose_spec (hch i) hi).1
   ·exact λi hi=>(Classical.choose_spec (hch i) hi).2.1
   ·intro i c hc;exact(Classical.choose_spec (hch i) (List.getElem?_eq_some_iff.1 hc).1).2.2 c hc
def DJ {α:Type} (f:α->Nat) (h:∀ x,f x=1) {l:List α}:(l.map f).sum=l.length:=by
 induction l with
 | nil=>rfl
 | cons a r ih=>simp[h a,ih]; omega
def Dc (xs:List Fl):RT.flt.flat xs=xs.map .flt:=by
 induction xs with
 | nil=>rfl
 | cons x r ih=>show[V.flt x]++RT.flt.flat r=_; rw[ih]; rfl
def AC (k:IntKind) (xs:List Int):(RT.int k).flat xs=xs.map (.int k):=by
 induction xs with
 | nil=>rfl
 | cons x r ih=>show[V.int k x]++(RT.int k).flat r=_; rw[ih]; rfl
def R_ {ok:Nat->Prop} {ρ:Rho} {xs:List Fl} {v:Value} (h:Rep ok w ρ (.rl .flt xs) v):Rep ok w ρ (.rof xs) v:=by
 rcases h.rl_inv.ro_inv with⟨h0,ea,ec,rfl⟩ | ⟨b,o,len,cap,g,rfl,h1,h2,h3,h4,h5,h6,h7⟩
 ·rw[Dc]at h0;obtain rfl:xs=[]:=by simpa using h0
  exact .rofn
 ·rw[Dc]at h3 h5 h6 h7;have:len=xs.length:=by simpa [RT.sz]using h3
  subst this;refine .rof xs b o cap g h1 h2 h4 (λi hi=>h5 i (by simpa using hi)) λi x hx=>?_
  exact(h7 i (.flt x) (by simp[hx])).flt_inv
def Sa {ok:Nat->Prop} {ρ:Rho} {k:IntKind} {xs:List Int} {v:Value} (h:Rep ok w ρ (.rl (.int k) xs) v):Rep ok w ρ (.roi k xs) v:=by
 rcases h.rl_inv.ro_inv with⟨h0,ea,ec,rfl⟩ | ⟨b,o,len,cap,g,rfl,h1,h2,h3,h4,h5,h6,h7⟩
 ·rw[AC]at h0;obtain rfl:xs=[]:=by simpa using h0
  exact .roin k
 ·rw[AC]at h3 h5 h6 h7;have:len=xs.length:=by simpa [RT.sz]using h3
  subst this;refine .roi k xs b o cap h1 h2 h4 λi x hx=>?_
  have hi:i<xs.length:=(List.getElem?_eq_some_iff.1 hx).1;rw[h5 i (by simpa using hi),(h7 i (.int k x) (by simp[hx])).int_inv]
def A3 {t:TypeId} {n:Nat} {cs:List Value} {y:DataW H × List MemPlace} {sp:Nat->Bool} (ht:P.underlying t=some (.float .f64)) (h:DataW.trod enc P w base sp held n t cs=some y):Ao w (bU y.1) .flt cs:=by
 cases n with
 | zero=>simp[DataW.trod]at h
 | succ n=>
  unfold DataW.trod at h;rw[ht]at h;split at h <;> try (simp_all; done)
  rename_i k k' b e1;obtain rfl:k=.f64:=by cases e1; rfl
  split at h
  ·rename_i hc;obtain⟨rfl,hw⟩:=hc;cases h;have hb:b<18446744073709551616:=by simpa [Lit.wf]using hw
   refine⟨fD b,⟨λb' hb'=>?_,nZ _⟩,λok hok ρ=>ua (.flt _ _ (yz b)),by simp[Value.oneCell']⟩;unfold fD at hb';cases hn:isNaN b with
   | true=>rw[hn]at hb'; cases hb'
   | false=>rw[hn]at hb'; cases hb'; exact hb
  ·cases h
def xJ:∀(d t:Nat) (rt:RT),zw P d t=some rt->FM P d t=true -> ∀(fuel:Nat) (cs:List Value) (y:DataW H × List MemPlace),
  DataW.trod enc P w base (λ_=>true) held fuel t cs=some y->(∀ n ∈ y.1.weights P t,n<=reachBytes)->Ao w (bU y.1) rt cs
 | 0,_,_,h,_,_,_,_,_,_=>by cases h
 | d+1,t,rt,h,hl,fuel,cs,y,hy,hwt=>by
  unfold zw at h;unfold FM at hl;split at h
  ·rename_i ht; cases h; exact A3 ht hy
  ·rename_i k ht; cases h;obtain⟨n,rfl,-,hw⟩:=DataW.trod_int ht hy;exact⟨n,⟨hw,nZ _⟩,λok hok ρ=>ua (.int k n),by simp[Value.oneCell']⟩
  ·rename_i ht; cases h;obtain⟨b,rfl,-⟩:=DataW.trod_bool ht hy;exact⟨b,⟨trivial,nZ _⟩,λok hok ρ=>ua (.bool b),by simp[Value.oneCell']⟩
  ·rename_i e ht;rw[ht]at hl;simp only at hl;have key:∀(a:RT),a.sz=P.cellsOf e->(∀ fuel cs y,DataW.trod enc P w base (λ_=>true) held fuel e cs=some y->(∀ n ∈ y.1.weights P e,n<=reachBytes)->Ao w (bU y.1) a cs) ->
     ∃ c,cs=[c]/\c.oneCell'=true /\ ∃ xs:List a.Ty,(xs.length*P.bytesOf e<=reachBytes/\(xs.map a.meas).sum+1<=bU y.1)/\(∀ x ∈ xs,a.wf x) /\ ∀ ok:Nat->Prop,(∀ b,ok b) -> ∀ ρ,Rep ok w ρ (.rl a xs) c:=by
    intro a hz ho;rcases DataW.trod_slice ht hy with⟨rfl,rfl⟩ | ⟨ad,len,cap,elems,rest,n,_,rfl,rfl,_,hcap,_,hlen,hel,_,_⟩
    ·exact⟨_,rfl,rfl,[],⟨by simp,nZ _⟩,by simp,λok hok ρ=>.rl _ _ _ (.ron _)⟩
    ·have hmem:∀(i:Nat) z,elems[i]? = some z -> ∀ n ∈ z.1.weights P e,n<=reachBytes:=by intro i z hz n hn;refine hwt n ?_;simp only[DataW.weights,ht,aeL,afQ];exact .inr (.inl (nc (List.mem_map.2 ⟨z,List.mem_of_getElem? hz,rfl⟩) n hn))
     obtain⟨xs,x1,x2,x3⟩:=I1 hz hlen hcap hel λi cs z hz hcs _=>ho n cs z hcs (hmem i z hz)
     refine⟨_,rfl,rfl,xs,⟨?_,by have:=x2.2; simp only[bU]; omega⟩,x2.1,x3⟩;have:=hwt ((elems.length+rest.length)*P.bytesOf e) (by simp[DataW.weights,ht]);rw[x1,<- hlen];exact adL (adp _ (by omega)) this
   split at h
   ·rename_i he;cases h;rw[he]at hl;simp only[aea,afl]at hl;obtain⟨c,rfl,hc,xs,x1,x2,x3⟩:=key .flt (by simp[RT.sz,hl.1]) λfuel cs y hy _=>A3 he hy
    rw[hl.2]at x1;have x4:=x1.2;rw[DJ (RT.flt.meas) λ_=>rfl]at x4;exact⟨xs,⟨⟨x1.1,x2⟩,x4⟩,λok hok ρ=>ua (R_ (x3 ok hok ρ)),by simpa using hc⟩
   ·rename_i k he;cases h;rw[he]at hl;simp only[aea,afl]at hl;obtain⟨c,rfl,hc,xs,x1,x2,x3⟩:=key (.int k) (by simp[RT.sz,hl.1]) λfuel cs y hy _=>by obtain⟨n,rfl,-,hw⟩:=DataW.trod_int he hy;exact⟨n,⟨hw,nZ _⟩,λok hok ρ=>ua (.int k n),by simp[Value.oneCell']⟩
    rw[hl.2]at x1;have x4:=x1.2;rw[DJ ((RT.int k).meas) λ_=>rfl]at x4;exact⟨xs,⟨⟨x1.1,x2⟩,x4⟩,λok hok ρ=>ua (Sa (x3 ok hok ρ)),by simpa using hc⟩
   ·rename_i n1 n2;rw[adP]at h;obtain⟨a,ha,rfl⟩:=h;have hl':(decide (8<=P.bytesOf e)&&szB P d e&&FM P d e)=true:=by
     split at hl
     ·rename_i q; exact absurd q n1
     ·rename_i k q; exact absurd q (n2 k)
     ·exact hl
    simp only[aea,afB]at hl';obtain⟨⟨l1,l2⟩,l3⟩:=hl';unfold szB at l2;rw[ha]at l2;obtain⟨c,rfl,hc,xs,x1,x2,x3⟩:=key a (by simpa using l2) λfuel cs y hy hw=>xJ d e a ha l3 fuel cs y hy hw
    exact⟨xs,⟨⟨adL (ads _ l1) x1.1,x2⟩,x1.2⟩,λok hok ρ=>ua (x3 ok hok ρ),by simpa using hc⟩
  ·rename_i e ht;rw[ht]at hl; cases hl
  ·rename_i fs ht;rw[ht]at hl;simp only[aea,List.all_eq_true,afl]at hl;obtain⟨l1,l2,l3⟩:=hl;rw[Option.bind_eq_some_iff]at h;obtain⟨ts,hts,hp⟩:=h;obtain⟨t1,t2⟩:=AX hts;obtain⟨ys,n,_,rfl,hcl,hyl,hat⟩:=DataW.trod_struct ht hy;have hyl':ys.length=fs.toList.length:=by rw[hyl]; simp
   have hcs:(fs.toList.map λf=>(cs.drop f.offset).take (P.cellsOf f.type)).flatten=cs:=by rw[G_ _ 0 l2 cs (by omega),l3,<- hcl]; simp
   have:=tY (w:=w) ts (fs.toList.map λf=>(cs.drop f.offset).take (P.cellsOf f.type)) (ys.map λy=>bU y.1) rt hp (by simp[t1]) (by simp[t1,hyl']) λi a c m ha hc hm=>by
    rw[List.getElem?_map,adP]at hc hm;obtain⟨f,hf,rfl⟩:=hc;obtain⟨y,hyi,rfl⟩:=hm;have hq:=t2 i f a hf ha;obtain⟨m1,m2⟩:=l1 f (List.mem_of_getElem? hf);have hf':fs[i]? = some f:=by simpa using hf
    have hy':=hat i f hf';rw[hyi]at hy';refine xJ d f.type a hq m1 n _ _ hy' λm hm=>hwt m ?_
    simp only[DataW.weights,ht];exact DataW.weights_mem_each (j:=i) (t:=f.type) (d:=y.1) (by simp[hf']) (by simp[hyi]) m hm
   rw[hcs]at this;obtain⟨x,⟨x1,x2⟩,x3⟩:=this;refine⟨x,⟨x1,adL x2 ?_⟩,x3⟩;simp only[bU,oZ,aff];exact Nat.le_succ _
  ·rename_i n e ht;rw[ht]at hl;simp only[aea,afl]at hl;obtain⟨⟨l1,l2⟩,l3⟩:=hl;rw[Option.bind_eq_some_iff]at h;obtain⟨a,ha,hp⟩:=h;obtain⟨ys,m,_,rfl,hcl,hyl,hat⟩:=DataW.trod_array ht hy;have hcs:((List.range n).map λi=>(cs.drop (i*P.cellsOf e)).take (P.cellsOf e)).flatten=cs:=by rw[KG,l3,<- hcl]; simp
   have:=tY (w:=w) (List.replicate n a) ((List.range n).map λi=>(cs.drop (i*P.cellsOf e)).take (P.cellsOf e)) (ys.map λy=>bU y.1) rt hp (by simp) (by simp[hyl]) λi b c q hb hc hq=>by
    rw[List.getElem?_map,adP]at hc hq;obtain⟨j,hj,rfl⟩:=hc;obtain⟨y,hyi,rfl⟩:=hq;have hi:i<n:=by have:=(List.getElem?_eq_some_iff.1 hj).1; simpa using this
    rw[List.getElem?_range hi]at hj;cases hj;rw[List.getElem?_replicate,if_pos hi]at hb;cases hb;have hy':=hat i hi;rw[hyi]at hy';refine xJ d e a ha l1 m _ _ hy' λz hz=>hwt z ?_
    simp only[DataW.weights,ht];exact nc (List.mem_map.2 ⟨y,List.mem_of_getElem? hyi,rfl⟩) z hz
   rw[hcs]at this;obtain⟨x,⟨x1,x2⟩,x3⟩:=this;refine⟨x,⟨x1,adL x2 ?_⟩,x3⟩;simp only[bU,oZ,aff];exact Nat.le_succ _
  ·cases h
end
section
variable {H:Type} {enc:TypeId × Value->H} {P:Program} {w:World}
def IQ {ok:Nat->Prop} {w:World} {ρ:Rho}:RepL ok w ρ [] []:=⟨rfl,λi u v hu _=>by simp at hu⟩
def mM {ok:Nat->Prop} {w:World} {ρ:Rho} {a:V} {x:Value} {us:List V} {xs:List Value} (h1:Rep ok w ρ a x) (h2:RepL ok w ρ us xs):RepL ok w ρ (a::us) (x::xs):=by
 refine⟨by simp[h2.1],λi u v hu hv=>?_⟩;cases i with
 | zero=>simp at hu hv; subst hu; subst hv; exact h1
 | succ i=>exact h2.2 i u v (by simpa using hu) (by simpa using hv)
def yI (P:Program) (t:Nat):Bool:=match P.underlying t with
 | some (.struct _)=>true
 | some (.array _ _)=>true
 | _=>false
def ES (P:Program) (t:Nat) (rt:RT) (x:rt.Ty):V:=cond (yI P t) (.agg (rt.cells x)) ((rt.cells x).headD .any)
def N2 {r:Reach} {b0:Nat} {t:TypeId} {v:Value} (ht:yI P t=false) (hval:Value.okWide P w r b0 t v):v.cells = #[v]:=by
 cases v with
 | agg cs=>
  exfalso;unfold yI at ht;unfold Value.okWide at hval;revert ht hval;cases hu:P.underlying t with
  | none=>intro _ hval; simp[Cell.okWide,Cell.ok,hu]at hval
  | some d=>cases d <;> simp[Cell.okWide,Cell.ok,hu]
 | _=>rfl
def re {r:Reach} {b0 base:Nat} {held:Bool} {t d:Nat} {rt:RT} {v:Value} {y:DataW H} {ps:List MemPlace} (hrt:zw P d t=some rt) (hl:FM P d t=true)
  (hval:Value.okWide P w r b0 t v) (hd:DataW.Trod enc P w base (λ_=>true) held t v y ps) (hw:∀ n ∈ y.weights P t,n<=reachBytes) :
  ∃ x:rt.Ty,(rt.wf x/\rt.meas x<=bU y) /\ ∀ ok:Nat->Prop,(∀ b,ok b) -> ∀ ρ,Rep ok w ρ (ES P t rt x) v:=by
 obtain⟨fuel,hf⟩:=hd;obtain⟨x,x1,x2,x3⟩:=xJ d t rt hrt hl fuel _ _ hf hw;refine⟨x,x1,λok hok ρ=>?_⟩;have hx:=x2 ok hok ρ;unfold ES;cases ha:yI P t with
 | true=>
  rw[adn];have:∃ cs:Array Value,v=.agg cs:=by
   unfold yI at ha;unfold Value.okWide at hval;split at ha
   ·rename_i e; rw[e]at hval; obtain⟨cs,h,-⟩:=hval; exact⟨cs,h⟩
   ·rename_i e; rw[e]at hval; obtain⟨cs,h,-⟩:=hval; exact⟨cs,h⟩
   ·cases ha
  obtain⟨cs,rfl⟩:=this;have e:(Value.cells (.agg cs))=cs:=rfl;rw[e]at hx x3;have:=Rep.agg (ok:=ok) (w:=w) (ρ:=ρ) (rt.cells x) cs.toList hx.1 (λv hv=>x3 v hv) hx.2;simpa using this
 | false=>
  rw[adm];rw[N2 ha hval]at hx;have hl1:(rt.cells x).length=1:=hx.1
  match hc:rt.cells x,hl1 with
  | [c],_=>
   rw[hc]at hx;exact hx.2 0 c v rfl rfl
def oC {ts:List TypeId} {ds:List (DataW H)} (h:(DataW.weightsEach P ts ds).all (· <= reachBytes)=true) {j:Nat} {t:TypeId} {d:DataW H} (ht:ts[j]? = some t) (hd:ds[j]? = some d):∀ n ∈ d.weights P t,n<=reachBytes:=
 λn hn=>by simpa using List.all_eq_true.1 h n (DataW.weights_mem_each ht hd n hn)
end
end Go.Mach
end
