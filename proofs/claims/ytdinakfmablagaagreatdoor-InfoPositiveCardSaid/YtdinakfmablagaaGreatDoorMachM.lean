/- The machine. Conditions: none. -/
import Derived.Test.YtdinakfmablagaaGreatDoorMachH
set_option linter.unusedVariables false
section
namespace Go.Mach
theorem kO (f:Nat->Option Nat):∀(cs:List V) (i:Nat),(ik f cs)[i]? = (cs[i]?).map (V.ren f)
 | [],i=>by simp[ik]
 | c::r,0=>by simp[ik]
 | c::r,i+1=>by simp[ik,kO f r i]
theorem Bo (f:Nat->Option Nat):∀(cs ds:List V),ik f (cs++ds)=ik f cs++ik f ds
 | [],_=>rfl
 | c::r,ds=>by simp[ik,Bo f r ds]
theorem RT.cells_ren (f:Nat->Option Nat):∀(t:RT) (x:t.Ty),ik f (t.cells x)=t.cells x
 | .flt,_ | .int _,_ | .bool,_ | .fls,_ | .ints _,_ | .rows _,_=>by simp[RT.cells,ik,V.ren]
 | .ptr a,x=>by simp only[RT.cells,ik,V.ren]; rw[RT.cells_ren f a x]
 | .pair a b,p=>by show ik f (a.cells p.1++b.cells p.2)=a.cells p.1++b.cells p.2;rw[Bo,RT.cells_ren f a,RT.cells_ren f b]
theorem RT.flat_ren (f:Nat->Option Nat) (t:RT) (xs:List t.Ty):ik f (t.flat xs)=t.flat xs:=by
 induction xs with
 | nil=>rfl
 | cons x r ih=>
  show ik f (t.cells x++t.flat r)=t.cells x++t.flat r;rw[Bo,ih,t.cells_ren]
theorem dj (f:Nat->Option Nat):∀(cs:List V),(ik f cs).length=cs.length
 | []=>rfl
 | c::r=>by simp[ik,dj f r]
theorem nC {ok:Nat->Prop} {w:World} {ρ ρ':Rho} {f:Nat->Option Nat} (hf:∀ n m q,f n=some m->ρ n=some q->ρ' m=some q) {x:V} {v:Value} (h:Rep ok w ρ x v):Rep ok w ρ' (x.ren f) v:=by
 induction h with
 | any v=>exact .any v
 | nil=>exact .nil
 | bool b=>exact .bool b
 | int k n=>exact .int k n
 | flt x v h=>exact .flt x v h
 | val v=>exact .val v
 | fn g caps vs v hl _ hv ih=>
  refine .fn g _ vs v (by rw[dj]; exact hl) (λi c u hc hu=>?_) hv;rw[kO]at hc;obtain⟨c0,h0,rfl⟩:=Option.map_eq_some_iff.1 hc;exact ih i c0 u h0 hu
 | ptr n o p h=>
  simp only[V.ren];cases e:f n with
  | none=>exact .any _
  | some m=>exact .ptr m o p (hf n m _ e h)
 | slw n p h=>
  simp only[V.ren];cases e:f n with
  | none=>exact .any _
  | some m=>exact .slw m p (hf n m _ e h)
 | slv n h=>
  simp only[V.ren];cases e:f n with
  | none=>exact .any _
  | some m=>exact .slv m (hf n m _ e h)
 | sl n o len cap o' p h hl ho hc=>
  simp only[V.ren];cases e:f n with
  | none=>exact .any _
  | some m=>exact .sl m o len cap o' p (hf n m _ e h) hl ho hc
 | rl t xs v _ ih=>
  simp only[V.ren]at ih ⊢;rw[t.flat_ren]at ih;exact .rl t xs v ih
 | slvp n o h=>
  simp only[V.ren];cases e:f n with
  | none=>exact .any _
  | some m=>exact .slvp m o (hf n m _ e h)
 | rofn=>exact .rofn
 | rof xs b o cap g h1 h2 h3 h4 h5=>exact .rof xs b o cap g h1 h2 h3 h4 h5
 | roin k=>exact .roin k
 | roi k xs b o cap h1 h2 h3 h4=>exact .roi k xs b o cap h1 h2 h3 h4
 | ron sz=>exact .ron sz
 | ro sz cs b o len cap g h1 h2 h3 h4 h5 h6 _ ih=>
  refine .ro sz _ b o len cap g h1 h2 (by rw[dj]; exact h3) h4 (λi hi=>h5 i (by rwa [dj]at hi)) (λi hi=>h6 i (by rwa [dj]at hi)) λi c hc=>?_
  rw[kO]at hc;obtain⟨c0,h0,rfl⟩:=Option.map_eq_some_iff.1 hc;exact ih i c0 h0
 | pf xs i b o v h1 h2 h3 h4=>exact .pf xs i b o v h1 h2 h3 h4
 | pi k xs i b o h1 h2 h3=>exact .pi k xs i b o h1 h2 h3
 | rp cs i b o g h1 h2 h3 h4 _ ih=>
  refine .rp _ i b o g h1 h2 (λj hj=>h3 j (by rwa [dj]at hj)) (λj hj=>h4 j (by rwa [dj]at hj)) λj c hc=>?_
  rw[kO]at hc;obtain⟨c0,h0,rfl⟩:=Option.map_eq_some_iff.1 hc;exact ih j c0 h0
 | opt n e o b p h he=>
  simp only[V.ren];cases hfn:f n with
  | none=>exact .any _
  | some m=>exact .opt m e o b p (hf n m _ hfn h) he
 | agg cs vs hl h1 _ ih=>
  refine .agg _ vs (by rw[dj]; exact hl) h1 λi c u hc hu=>?_
  rw[kO]at hc;obtain⟨c0,h0,rfl⟩:=Option.map_eq_some_iff.1 hc;exact ih i c0 u h0 hu
 | tup cs vs hl _ ih=>
  refine .tup _ vs (by rw[dj]; exact hl) λi c u hc hu=>?_
  rw[kO]at hc;obtain⟨c0,h0,rfl⟩:=Option.map_eq_some_iff.1 hc;exact ih i c0 u h0 hu
theorem RepL.ren {ok:Nat->Prop} {w:World} {ρ ρ':Rho} {f:Nat->Option Nat} (hf:∀ n m q,f n=some m->ρ n=some q->ρ' m=some q) {cs:List V} {us:List Value} (h:RepL ok w ρ cs us):RepL ok w ρ' (ik f cs) us:=by refine⟨by rw[dj]; exact h.1,λi c u hc hu=>?_⟩;rw[kO]at hc;obtain⟨c0,h0,rfl⟩:=Option.map_eq_some_iff.1 hc;exact nC hf (h.2 i c0 u h0 hu)
theorem Body.ren_at (f:Nat->Option Nat) (c:Body) (i:Nat):(c.ren f).at i=(c.at i).map (V.ren f):=by
 cases c with
 | flts xs=>simp only[Body.ren,Body.at,aiq]; rfl
 | ints q xs=>simp only[Body.ren,Body.at,aiq]; rfl
 | cells cs=>exact kO f cs i
 | recs t xs=>
  show(t.flat xs)[i]? = ((t.flat xs)[i]?).map (V.ren f);rw[<- kO,t.flat_ren]
 | own t a xs hs=>simp only[Body.ren,Body.at,aiq]; rfl
theorem Body.ren_size (f:Nat->Option Nat) (c:Body):(c.ren f).size=c.size:=by
 cases c with
 | flts xs=>rfl
 | ints q xs=>rfl
 | cells cs=>exact dj f cs
 | recs t xs=>rfl
 | own t a xs hs=>rfl
theorem Body.ren_holes (f:Nat->Option Nat) (c:Body):(c.ren f).holes=c.holes:=by cases c <;> rfl
theorem Body.ren_own (f:Nat->Option Nat) (c:Body):(c.ren f).isOwn=c.isOwn:=by cases c <;> rfl
theorem iv (f:Nat->Option Nat) {p:Place} {c:Body} {b:Nat}:hasB p (c.ren f) b↔hasB p c b:=by unfold hasB; rw[Body.ren_holes]
theorem BodyRep.ren {ok:Nat->Prop} {w:World} {ρ ρ':Rho} {f:Nat->Option Nat} (hf:∀ n m q,f n=some m->ρ n=some q->ρ' m=some q) {c:Body} {cur:Array Value} (h:BodyRep ok w ρ c cur):BodyRep ok w ρ' (c.ren f) cur:=by intro i x hx;rw[Body.ren_at]at hx;obtain⟨y,hy,rfl⟩:=Option.map_eq_some_iff.1 hx;obtain⟨v,h1,h2,h3⟩:=h i y hy;exact⟨v,h1,h2,nC hf h3⟩
theorem SubsAt.ren {ok:Nat->Prop} {w:World} {ρ ρ':Rho} {f:Nat->Option Nat} (hf:∀ n m q,f n=some m->ρ n=some q->ρ' m=some q) {p:Place} {c:Body} {cur:Array Value} (h:SubsAt ok w ρ p c cur):SubsAt ok w ρ' p (c.ren f) cur:=by
 cases hc:c.isOwn with
 | false=>exact(SubsAt.plain (by rw[Body.ren_own]; exact hc)).2 ((SubsAt.plain hc).1 h)
 | true=>
  cases c with
  | own t a xs hs=>
   obtain⟨h1,h2,h3,h4⟩:=h;refine⟨h1,h2,h3,λi x hx=>?_⟩;obtain⟨b,b1,b2,b3⟩:=h4 i x hx;refine⟨b,b1,b2,λhi=>?_⟩;obtain⟨cur',c1,c2,c3⟩:=b3 hi;refine⟨cur',c1,c2,?_⟩;have:=c3.ren hf;simp only[Body.ren,a.cells_ren]at this;exact this
  | _=>cases hc
theorem BlkAt.ren {ok:Nat->Prop} {w:World} {ρ ρ':Rho} {f:Nat->Option Nat} (hf:∀ n m q,f n=some m->ρ n=some q->ρ' m=some q) {q:Option Place} {blk:Blk} (h:BlkAt ok w ρ q blk):BlkAt ok w ρ' q (blk.ren f):=by
 cases q with
 | none=>show(blk.c.ren f).size=0; rw[Body.ren_size]; exact h
 | some p=>
  obtain⟨cur,g1,g2,g3,g4,g5,g6,g7⟩:=h;exact⟨cur,g1,g2,by show _=(blk.c.ren f).size; rw[Body.ren_size]; exact g3,g4,g5,g6.ren hf,g7.ren hf⟩
theorem pP:∀{cs:List V},yQ cs=true -> ∀(i:Nat) c,cs[i]? = some c->c.free=true
 | [],_,i,c,h=>by simp at h
 | x::r,hf,0,c,h=>by simp[yQ]at hf h; subst h; exact hf.1
 | x::r,hf,i+1,c,h=>by simp[yQ]at hf h; exact pP hf.2 i c h
theorem RT.plain_free:∀(t:RT) (x:t.Ty),t.plain=true -> ∀(i:Nat) c,(t.cells x)[i]? = some c->c.free=true
 | .flt,_,_,i,c,hc | .int _,_,_,i,c,hc | .bool,_,_,i,c,hc=>by
  cases i with
  | zero=>simp[RT.cells]at hc; subst hc; rfl
  | succ i=>simp[RT.cells]at hc
 | .fls,_,h,_,_,_ | .ints _,_,h,_,_,_ | .rows _,_,h,_,_,_ | .ptr _,_,h,_,_,_=>by simp[RT.plain]at h
 | .pair a b,p,h,i,c,hc=>by
  simp only[RT.plain,afK]at h;have hc:(a.cells p.1++b.cells p.2)[i]? = some c:=hc;rw[List.getElem?_append]at hc;split at hc
  ·exact RT.plain_free a _ h.1 i c hc
  ·exact RT.plain_free b _ h.2 _ c hc
theorem RT.flat_free (t:RT) (h:t.plain=true):∀(xs:List t.Ty) (i:Nat) c,(t.flat xs)[i]? = some c->c.free=true
 | [],i,c,hc=>by simp[RT.flat]at hc
 | x::r,i,c,hc=>by
  have hc:(t.cells x++t.flat r)[i]? = some c:=hc;rw[List.getElem?_append]at hc;split at hc
  ·exact t.plain_free x h i c hc
  ·exact t.flat_free h r _ c hc
theorem wM {ok ok':Nat->Prop} {w w':World} {ρ:Rho} {x:V} {v:Value} (h:Rep ok w ρ x v) (hx:x.free=true):Rep ok' w' ρ x v:=by
 induction h with
 | any v=>simp[V.free]at hx
 | nil=>exact .nil
 | bool b=>exact .bool b
 | int k n=>exact .int k n
 | flt x v h=>exact .flt x v h
 | val v=>exact .val v
 | fn g caps vs v hl _ hv ih=>exact .fn g caps vs v hl (λi c u hc hu=>ih i c u hc hu (pP (by simpa [V.free]using hx) i c hc)) hv
 | ptr n o p h=>exact .ptr n o p h
 | slw n p h=>exact .slw n p h
 | slv n h=>exact .slv n h
 | sl n o len cap o' p h hl ho hc=>exact .sl n o len cap o' p h hl ho hc
 | rl t xs v _ _=>simp[V.free]at hx
 | slvp n o h=>exact .slvp n o h
 | rofn=>simp[V.free]at hx
 | rof xs b o cap g h1 h2 h3 h4 h5=>simp[V.free]at hx
 | roin k=>simp[V.free]at hx
 | roi k xs b o cap h1 h2 h3 h4=>simp[V.free]at hx
 | ron sz=>simp[V.free]at hx
 | ro sz cs b o len cap g h1 h2 h3 h4 h5 h6 _ ih=>simp[V.free]at hx
 | pf xs i b o v h1 h2 h3 h4=>simp[V.free]at hx
 | pi k xs i b o h1 h2 h3=>simp[V.free]at hx
 | opt n e o b p h he=>exact .opt n e o b p h he
 | rp cs i b o g h1 h2 h3 h4 _ ih=>simp[V.free]at hx
 | agg cs vs hl h1 _ ih=>exact .agg cs vs hl h1 λi c u hc hu=>ih i c u hc hu (pP (by simpa [V.free]using hx) i c hc)
 | tup cs vs hl _ ih=>exact .tup cs vs hl λi c u hc hu=>ih i c u hc hu (pP (by simpa [V.free]using hx) i c hc)
theorem BodyRep.free {ok ok':Nat->Prop} {w w':World} {ρ:Rho} {c:Body} {cur:Array Value} (h:BodyRep ok w ρ c cur) (hx:c.free=true):BodyRep ok' w' ρ c cur:=by
 intro i x hc;obtain⟨v,h1,h2,h3⟩:=h i x hc;refine⟨v,h1,h2,?_⟩;cases c with
 | flts xs=>simp only[Body.at,afQ]at hc; obtain⟨y,_,rfl⟩:=hc; exact .flt _ _ h3.flt_inv
 | ints q xs=>simp only[Body.at,afQ]at hc; obtain⟨y,_,rfl⟩:=hc; obtain rfl:=h3.int_inv; exact .int _ _
 | cells cs=>exact wM h3 (pP (by simpa [Body.free]using hx) i x hc)
 | recs t xs=>exact wM h3 (t.flat_free (by simpa [Body.free]using hx) xs i x hc)
 | own t a xs hs=>simp only[Body.at,afQ]at hc; obtain⟨y,_,rfl⟩:=hc; exact .any _
theorem SubsAt.free {ok ok':Nat->Prop} {w:World} {ρ:Rho} {p:Place} {c:Body} {cur:Array Value} (h:SubsAt ok w ρ p c cur) (hx:c.free=true):SubsAt ok' w ρ p c cur:=by
 cases hc:c.isOwn with
 | false=>exact(SubsAt.plain hc).2 ((SubsAt.plain hc).1 h)
 | true=>
  cases c with
  | own t a xs hs=>
   obtain⟨h1,h2,h3,h4⟩:=h;refine⟨h1,h2,h3,λi x hx'=>?_⟩;obtain⟨b,b1,b2,b3⟩:=h4 i x hx';refine⟨b,b1,b2,λhi=>?_⟩;obtain⟨cur',c1,c2,c3⟩:=b3 hi;refine⟨cur',c1,c2,λj z hz=>?_⟩;obtain⟨v,v1,v2,v3⟩:=c3 j z hz;exact⟨v,v1,v2,wM v3 (a.plain_free x (by simpa [Body.free]using hx) j z hz)⟩
  | _=>cases hc
theorem BlkAt.free {ok ok':Nat->Prop} {w:World} {ρ:Rho} {q:Option Place} {blk:Blk} (h:BlkAt ok w ρ q blk) (hx:blk.c.free=true):BlkAt ok' w ρ q blk:=by
 cases q with
 | none=>exact h
 | some p=>
  obtain⟨cur,g1,g2,g3,g4,g5,g6,g7⟩:=h;exact⟨cur,g1,g2,g3,g4,g5,g6.free hx,g7.free hx⟩
theorem pU {α β:Type} {f:α->Option β}:∀{l:List α} {r:List β},l.mapM f=some r->l.length=r.length /\ ∀(i:Nat) b,r[i]? = some b -> ∃ a,l[i]? = some a/\f a=some b
 | [],r,h=>by simp at h; subst h; simp
 | a::l,r,h=>by
  simp only[List.mapM_cons,Option.bind_eq_bind,Option.pure_def]at h;cases ha:f a with
  | none=>simp[ha]at h
  | some b=>
   cases hl:l.mapM f with
   | none=>simp[ha,hl]at h
   | some r'=>
    simp[ha,hl]at h;subst h;obtain⟨h1,h2⟩:=pU hl;refine⟨by simp[h1],λi c hc=>?_⟩;cases i with
    | zero=>simp at hc; subst hc; exact⟨a,rfl,ha⟩
    | succ i=>exact h2 i c (by simpa using hc)
def okL (ok:Nat->Prop) (ρ:Rho) (L:LK) (B:List Nat) (b:Nat):Prop:=ok b \/ ∃ n p blk,n ∈ B/\L n=some blk/\ρ n=some (some p)/\hasB p blk.c b
theorem pT {ok:Nat->Prop} {w:World} {ρ:Rho} {L:LK} (B:List Nat):Keeps ok w ρ (okL ok ρ L B) w ρ:=⟨λ_ _ h=>h,λ_ _ h=>⟨.inl h,rfl⟩,afw _⟩
theorem gD {α β:Type} {f:α->List β} {l:List α} {a:α} {b:β} (ha:a ∈ l) (hb:b ∈ f a):b ∈ (l.map f).flatten:=
 List.mem_flatten.2 ⟨f a,List.mem_map.2 ⟨a,ha,rfl⟩,hb⟩
theorem Px {G:Gh} {w:World} {ρ:Rho} {L:LK} (hs:SimW G w ρ L) (B:List Nat) {n:Nat} (hnB:n ∈ B) {blk:Blk} {tt:Nat} {a:RT} {xs:List a.Ty} {hh:List Nat} {p:Place} (hL:L n=some blk) (hc:blk.c=.own tt a xs hh) (hp:ρ n=some (some p)) {j b:Nat} (hj:p.subs[j]? = some b) (hn:j ∉ hh) {y:a.Ty} (hy:xs[j]? = some y) (o:Nat) :
  Rep (okL (okc G ρ L) ρ L B) w ρ (.rp (a.cells y) o) (.pointer (some ⟨b,o,none⟩)):=by
 obtain⟨y',c0,f1,f2,f3,f4⟩:=hs.sub hL hc hp hj hn;rw[hy]at f1; cases f1;have hf:∀ i,∃ u:Value,i<(a.cells y).length->(w.cell? ⟨b,i,none⟩=some u/\u.oneCell'=true /\ ∀ z,(a.cells y)[i]? = some z->Rep (okc G ρ L) w ρ z u):=by
  intro i;by_cases hi:i<(a.cells y).length
  ·obtain⟨u,u1,u2,u3⟩:=f4 i (a.cells y)[i] (by show(a.cells y)[i]? = _; exact List.getElem?_eq_getElem hi);exact⟨u,λ_=>⟨aW f2 u1,u2,λz hz=>by rw[List.getElem?_eq_getElem hi]at hz; cases hz; exact u3⟩⟩
  ·exact⟨.bool false,λh=>absurd h hi⟩
 obtain⟨g,hg⟩:=Classical.skolem.1 hf;exact .rp _ o b o g (.inr ⟨n,p,blk,hnB,hL,hp,.inr ⟨j,hj,by rw[hc]; exact hn⟩⟩) (Array.getElem?_eq_some_iff.1 f2).1 (λi hi=>(hg _ hi).1) (λi hi=>(hg i hi).2.1) λi c hc=>
  ((hg i (List.getElem?_eq_some_iff.1 hc).1).2.2 c hc).mono (pT B)
theorem nW {G:Gh} {w:World} {ρ:Rho} {L:LK} {M:aL} (hs:SimW G w ρ L) (B:List Nat) (hB:∀ n,n ∈ B->L n=aq M n) :
  ∀(d:Nat) (x y:V) (v:Value),jS M d x=some y->(∀ n,n ∈ mP M d x->n ∈ B)->Rep (okc G ρ L) w ρ x v->Rep (okL (okc G ρ L) ρ L B) w ρ y v:=by
 intro d;induction d with
 | zero=>intro x y v h; simp[jS]at h
 | succ d ih=>
  have cells:∀(n o m cap s:Nat) (p:Place) (cur:Array Value) (blk:Blk) (cs cs':List V),n ∈ B->L n=some blk->ρ n=some (some p)->w.heap[p.b]? = some (.cells cur blk.e (0,0))->BodyRep (okc G ρ L) w ρ blk.c cur ->
    cs.mapM (jS M d)=some cs'->(∀ z,z ∈ cs -> ∀ n,n ∈ mP M d z->n ∈ B)->(∀ i,i<cs.length->blk.c.at (o+i)=cs[i]?)->m*s=cs.length->m<=cap->Rep (okL (okc G ρ L) ρ L B) w ρ (.ro s cs') (.slice (some ⟨p.b,o,none⟩) m cap):=by
   intro n o m cap s p cur blk cs cs' hn hLn hp hc hb hm hl hat hms hcap;obtain⟨m1,m2⟩:=pU hm;have hlt:p.b<w.heap.size:=(Array.getElem?_eq_some_iff.1 hc).1;have hf:∀ i,∃ u:Value,i<cs.length->(w.cell? ⟨p.b,o+i,none⟩=some u/\u.oneCell'=true /\ ∀ z,cs[i]? = some z->Rep (okc G ρ L) w ρ z u):=by
    intro i;by_cases hi:i<cs.length
    ·obtain⟨u,u1,u2,u3⟩:=hb (o+i) cs[i] (by rw[hat i hi]; simp[hi]);exact⟨u,λ_=>⟨aW hc u1,u2,λz hz=>by simp[hi]at hz; subst hz; exact u3⟩⟩
    ·exact⟨.bool false,λh=>absurd h hi⟩
   obtain⟨g,hg⟩:=Classical.skolem.1 hf;refine .ro s cs' p.b o m cap g (.inr ⟨n,p,blk,hn,hLn,hp,bY _ _⟩) hlt (by rw[hms,m1]) hcap (λi hi=>(hg i (by omega)).1) (λi hi=>(hg i (by omega)).2.1) λi c hc=>?_
   obtain⟨a,ha,hla⟩:=m2 i c hc;have hi:i<cs.length:=(List.getElem?_eq_some_iff.1 ha).1;exact ih a c _ hla (hl a (List.mem_of_getElem? ha)) ((hg i hi).2.2 a ha)
  have fls:∀(n o m cap:Nat) (p:Place) (cur:Array Value) (blk:Blk) (xs:List Fl),n ∈ B->L n=some blk->ρ n=some (some p)->w.heap[p.b]? = some (.cells cur blk.e (0,0))->BodyRep (okc G ρ L) w ρ blk.c cur ->
    (∀ i,i<xs.length->blk.c.at (o+i)=(xs[i]?).map .flt)->m=xs.length->m<=cap->Rep (okL (okc G ρ L) ρ L B) w ρ (.rof xs) (.slice (some ⟨p.b,o,none⟩) m cap):=by
   intro n o m cap p cur blk xs hn hLn hp hc hb hat hms hcap;have hlt:p.b<w.heap.size:=(Array.getElem?_eq_some_iff.1 hc).1;have hf:∀ i,∃ u:Value,i<xs.length->(w.cell? ⟨p.b,o+i,none⟩=some u /\ ∀ z,xs[i]? = some z->FRep z u):=by
    intro i;by_cases hi:i<xs.length
    ·obtain⟨u,u1,u2,u3⟩:=hb (o+i) (.flt xs[i]) (by rw[hat i hi]; simp[hi]);exact⟨u,λ_=>⟨aW hc u1,λz hz=>by simp[hi]at hz; subst hz; exact u3.flt_inv⟩⟩
    ·exact⟨.bool false,λh=>absurd h hi⟩
   obtain⟨g,hg⟩:=Classical.skolem.1 hf;subst hms;exact .rof xs p.b o cap g (.inr ⟨n,p,blk,hn,hLn,hp,bY _ _⟩) hlt hcap (λi hi=>(hg i hi).1) (λi x hx=>(hg i (List.getElem?_eq_some_iff.1 hx).1).2 x hx)
  have ins:∀(n o m cap:Nat) (p:Place) (cur:Array Value) (blk:Blk) (q:IntKind) (xs:List Int),n ∈ B->L n=some blk->ρ n=some (some p)->w.heap[p.b]? = some (.cells cur blk.e (0,0))->BodyRep (okc G ρ L) w ρ blk.c cur ->
    (∀ i,i<xs.length->blk.c.at (o+i)=(xs[i]?).map (.int q))->m=xs.length->m<=cap->Rep (okL (okc G ρ L) ρ L B) w ρ (.roi q xs) (.slice (some ⟨p.b,o,none⟩) m cap):=by
   intro n o m cap p cur blk q xs hn hLn hp hc hb hat hms hcap;have hlt:p.b<w.heap.size:=(Array.getElem?_eq_some_iff.1 hc).1;subst hms;refine .roi q xs p.b o cap (.inr ⟨n,p,blk,hn,hLn,hp,bY _ _⟩) hlt hcap λi x hx=>?_
   have hi:=(List.getElem?_eq_some_iff.1 hx).1;obtain⟨u,u1,u2,u3⟩:=hb (o+i) (.int q x) (by rw[hat i hi,hx]; rfl);obtain rfl:=u3.int_inv;exact aW hc u1
  have rls:∀(n o m cap:Nat) (p:Place) (cur:Array Value) (blk:Blk) (t:RT) (xs:List t.Ty),n ∈ B->L n=some blk->ρ n=some (some p)->w.heap[p.b]? = some (.cells cur blk.e (0,0))->BodyRep (okc G ρ L) w ρ blk.c cur ->
    (∀ i,i<(t.flat xs).length->blk.c.at (o+i)=(t.flat xs)[i]?)->m*t.sz=(t.flat xs).length->m<=cap->Rep (okL (okc G ρ L) ρ L B) w ρ (.rl t xs) (.slice (some ⟨p.b,o,none⟩) m cap):=by
   intro n o m cap p cur blk t xs hn hLn hp hc hb hat hms hcap;have hlt:p.b<w.heap.size:=(Array.getElem?_eq_some_iff.1 hc).1;have hf:∀ i,∃ u:Value,i<(t.flat xs).length->(w.cell? ⟨p.b,o+i,none⟩=some u/\u.oneCell'=true /\ ∀ z,(t.flat xs)[i]? = some z->Rep (okc G ρ L) w ρ z u):=by
    intro i;by_cases hi:i<(t.flat xs).length
    ·obtain⟨u,u1,u2,u3⟩:=hb (o+i) (t.flat xs)[i] (by rw[hat i hi]; simp[hi]);exact⟨u,λ_=>⟨aW hc u1,u2,λz hz=>by simp[hi]at hz; subst hz; exact u3⟩⟩
    ·exact⟨.bool false,λh=>absurd h hi⟩
   obtain⟨g,hg⟩:=Classical.skolem.1 hf;refine .rl t xs _ (.ro t.sz _ p.b o m cap g (.inr ⟨n,p,blk,hn,hLn,hp,bY _ _⟩) hlt hms hcap (λi hi=>(hg i hi).1) (λi hi=>(hg i hi).2.1) λi c hc=>?_);have hi:=(List.getElem?_eq_some_iff.1 hc).1;exact((hg i hi).2.2 c hc).mono (pT B)
  have rl0:∀(t:RT) (xs:List t.Ty),(Body.recs t xs).size=0->Rep (okL (okc G ρ L) ρ L B) w ρ (.rl t xs) (.slice none 0 0):=by
   intro t xs h0;have:xs.length=0:=by
    simp only[Body.size,aQ]at h0;rcases Nat.mul_eq_zero.1 h0 with h | h
    ·exact h
    ·have:=t.sz_pos; omega
   obtain rfl:=afI this;exact .rl t [] _ (.ron _)
  intro x y v h hl hx;cases x <;> simp only[jS,mP]at h hl
  case slw n=>
   cases hM:aq M n with
   | none=>simp[hM]at h
   | some blk=>
    obtain⟨e,s,c⟩:=blk;simp only[hM]at h hl;have hnB:n ∈ B:=by cases c <;> exact hl n (by simp)
    have hL:L n=some ⟨e,s,c⟩:=by rw[hB n hnB,hM]
    rcases hx.slw_inv with⟨p,hp,rfl⟩ | ⟨hp,rfl⟩
    ·obtain⟨cur,c1,c2,c3,c4,c5,c6⟩:=hs.place hL hp;cases c with
     | flts xs=>
      simp only at h hl;obtain⟨e1,e2⟩:=bA h;obtain rfl:s=1:=by simpa using e1
      cases e2;exact fls n 0 p.len p.cap p cur _ xs hnB hL hp c1 c6 (λi hi=>by simp[Body.at]) (by simpa [Body.size]using c3) c4
     | ints q xs=>
      simp only at h hl;obtain⟨e1,e2⟩:=bA h;obtain rfl:s=1:=by simpa using e1
      cases e2;exact ins n 0 p.len p.cap p cur _ q xs hnB hL hp c1 c6 (λi hi=>by simp[Body.at]) (by simpa [Body.size]using c3) c4
     | cells cs=>
      simp only at h hl;obtain⟨cs',h1,rfl⟩:=Option.map_eq_some_iff.1 h;exact cells n 0 p.len p.cap s p cur _ cs cs' hnB hL hp c1 c6 h1 (λz hz m hm=>hl m (afE _ (gD hz hm))) (λi hi=>by simp[Body.at]) (by simpa [Body.size]using c3) c4
     | recs t xs=>
      simp only at h hl;obtain⟨e1,e2⟩:=bA h;obtain rfl:s=t.sz:=by simpa using e1
      cases e2;exact rls n 0 p.len p.cap p cur _ t xs hnB hL hp c1 c6 (λi hi=>by rw[afL]; rfl) (by rw[t.flat_length]; simpa [Body.size,aQ]using c3) c4
     | own tt a xs hh=>
      cases hh with
      | cons q r=>simp at h
      | nil=>
       simp only at h;obtain⟨e1,e2⟩:=bA h;obtain rfl:s=1:=by simpa using e1
       cases e2;have hfl:((RT.ptr a).flat xs).length=xs.length:=by rw[RT.flat_length]; simp[RT.sz]
       have hf:∀ i,∃ u:Value,i<xs.length->(w.cell? ⟨p.b,0+i,none⟩=some u/\u.oneCell'=true /\ ∀ z,((RT.ptr a).flat xs)[i]? = some z->Rep (okL (okc G ρ L) ρ L B) w ρ z u):=by
        intro i;by_cases hi:i<xs.length
        ·obtain⟨b,cur',d1,d2,d3⟩:=hs.subp hL rfl hp hi;rw[c1]at d1; cases d1;obtain⟨y,c0,f1,f2,f3,f4⟩:=hs.sub hL rfl hp d2 (by simp);refine⟨_,λ_=>⟨by rw[afL]; exact aW c1 d3,rfl,λz hz=>?_⟩⟩;rw[RT.flat_get1 _ rfl,f1]at hz;have hz:z=.rp (a.cells y) 0:=by simpa [RT.cells]using hz.symm
         subst hz;exact Px hs B hnB hL rfl hp d2 (by simp) f1 0
        ·exact⟨.bool false,λh=>absurd h hi⟩
       obtain⟨g,hg⟩:=Classical.skolem.1 hf;have hlt:p.b<w.heap.size:=(Array.getElem?_eq_some_iff.1 c1).1;refine .rl (.ptr a) xs _ (.ro 1 _ p.b 0 p.len p.cap g (.inr ⟨n,p,_,hnB,hL,hp,bY _ _⟩) hlt (by rw[hfl]; simpa [Body.size]using c3) c4 (λi hi=>(hg i (by rw[<- hfl]; exact hi)).1) (λi hi=>(hg i (by rw[<- hfl]; exact hi)).2.1) λi c hc=>?_);have hi:=(List.getElem?_eq_some_iff.1 hc).1;exact(hg i (by rw[<- hfl]; exact hi)).2.2 c hc
    ·have h0:=hs.empty hL hp;cases c with
     | flts xs=>
      simp only at h;obtain⟨e1,e2⟩:=bA h;obtain rfl:xs=[]:=afI h0;cases e2; exact .rofn
     | ints q xs=>
      simp only at h;obtain⟨e1,e2⟩:=bA h;obtain rfl:xs=[]:=afI h0;cases e2; exact .roin _
     | cells cs=>
      simp only at h;obtain rfl:cs=[]:=afI h0;simp at h; subst h; exact .ron _
     | recs t xs=>
      simp only at h;obtain⟨e1,e2⟩:=bA h;cases e2; exact rl0 t xs h0
     | own tt a xs hh=>
      cases hh with
      | cons q r=>simp at h
      | nil=>
       simp only at h;obtain⟨e1,e2⟩:=bA h;obtain rfl:xs=[]:=afI h0;cases e2; exact .rl _ [] _ (.ron _)
  case opt n e o=>
   cases hM:aq M n with
   | none=>simp[hM]at h
   | some blk=>
    obtain⟨e0,s,c⟩:=blk;cases c with
    | own tt a xs hh=>
     cases hh with
     | cons q r=>simp[hM]at h
     | nil=>
      simp only[hM,afN]at h;subst h;have hnB:n ∈ B:=hl n (by simp);have hL:L n=some ⟨e0,s,.own tt a xs []⟩:=by rw[hB n hnB,hM]
      obtain⟨p,b,hp,hb,rfl⟩:=hx.opt_inv;obtain⟨y,c0,f1,f2,f3,f4⟩:=hs.sub hL rfl hp hb (by simp);rw[List.getD_eq_getElem?_getD,f1,af8];exact Px hs B hnB hL rfl hp hb (by simp) f1 o
    | _=>simp[hM]at h
  case sl n o len=>
   cases hM:aq M n with
   | none=>simp[hM]at h
   | some blk=>
    simp only[hM]at h hl;have hl:∀ m,m ∈ (match blk.c.cut o (cY len blk.sz)with
      | some (.cells cs)=>n::(cs.map (mP M d)).flatten
      | _=>[n])->m ∈ B:=by
     intro m hm;refine hl m ?_;cases hc:blk.c.isCells with
     | true=>exact hm
     | false=>
      split at hm
      ·rename_i cs hq;rw[Body.cut_cells hq]at hc; cases hc
      ·exact hm
    cases hcut:blk.c.cut o (cY len blk.sz)with
    | none=>simp[hcut]at h
    | some c=>
     simp only[hcut]at h hl;have hnB:n ∈ B:=by cases c <;> exact hl n (by simp)
     have hL:L n=some blk:=by rw[hB n hnB,hM]
     obtain⟨k1,k2,k3⟩:=Body.cut_sound hcut;rw[aQ]at k1 k2 k3;rcases hx.sl_inv with⟨p,cap,o',hp,hcap,ho',-,rfl⟩ | ⟨hp,rfl,rfl⟩
     ·obtain⟨cur,c1,c2,c3,c4,c5,c6⟩:=hs.place hL hp;have hoff:∀ i,i<c.size->c.at i=blk.c.at (o'+i):=by
       intro i hi;rcases ho' with rfl | rfl
       ·exact k3 i (by omega)
       ·simp at k1; omega
      cases c with
      | flts xs=>
       simp only at h;obtain⟨e1,e2⟩:=bA h;have hs1:blk.sz=1:=by simpa using e1
       cases e2;exact fls n o' len cap p cur blk xs hnB hL hp c1 c6 (λi hi=>by rw[<- hoff i hi]; rfl) (by simpa [Body.size,hs1]using k1.symm) hcap
      | ints q xs=>
       simp only at h;obtain⟨e1,e2⟩:=bA h;have hs1:blk.sz=1:=by simpa using e1
       cases e2;exact ins n o' len cap p cur blk q xs hnB hL hp c1 c6 (λi hi=>by rw[<- hoff i hi]; rfl) (by simpa [Body.size,hs1]using k1.symm) hcap
      | cells cs=>
       simp only at h;obtain⟨cs',h1,rfl⟩:=Option.map_eq_some_iff.1 h;exact cells n o' len cap blk.sz p cur blk cs cs' hnB hL hp c1 c6 h1 (λz hz m hm=>hl m (afE _ (gD hz hm))) (λi hi=>by rw[<- hoff i hi]; rfl) (by simpa [Body.size]using k1.symm) hcap
      | recs t xs=>
       simp only at h;obtain⟨e1,e2⟩:=bA h;have hs1:blk.sz=t.sz:=by simpa using e1
       cases e2;have hsz:(Body.recs t xs).size=(t.flat xs).length:=by show cY _ _=_; rw[aQ,t.flat_length]
       exact rls n o' len cap p cur blk t xs hnB hL hp c1 c6 (λi hi=>by rw[<- hoff i (by rw[hsz]; exact hi)]; rfl) (by rw[<- hsz,k1,hs1]) hcap
      | own tt a xs hh=>simp at h
     ·simp at k1;cases c with
      | flts xs=>
       simp only at h;obtain⟨e1,e2⟩:=bA h;obtain rfl:xs=[]:=afI k1;cases e2; exact .rofn
      | ints q xs=>
       simp only at h;obtain⟨e1,e2⟩:=bA h;obtain rfl:xs=[]:=afI k1;cases e2; exact .roin _
      | cells cs=>
       simp only at h;obtain rfl:cs=[]:=afI k1;simp at h; subst h; exact .ron _
      | recs t xs=>
       simp only at h;obtain⟨e1,e2⟩:=bA h;cases e2; exact rl0 t xs k1
      | own tt a xs hh=>simp at h
  case agg cs=>
   obtain⟨cs',h1,rfl⟩:=Option.map_eq_some_iff.1 h;obtain⟨us,rfl,hul,hone,hrep⟩:=hx.agg_inv;obtain⟨m1,m2⟩:=pU h1;refine .agg cs' us (by omega) hone λi c u hc hu=>?_
   obtain⟨a,ha,hla⟩:=m2 i c hc;exact ih a c u hla (λm hm=>hl m (gD (List.mem_of_getElem? ha) hm)) (hrep i a u ha hu)
  all_goals (cases h; exact hx.mono (pT B))
theorem y_ {P:Program} {ok:Nat->Prop} {w:World} {ρ:Rho} (t:Nat) {x:V} {v:Value} (h:Rep ok w ρ x v):Rep ok w ρ (JO P t x) v:=by
 unfold JO;split
 ·obtain rfl:=h.nil_inv;split
  ·split
   ·exact .rofn
   ·exact .roin _
   ·split
    ·exact .rl _ [] _ (.ron _)
    ·exact .ron _
  ·exact .nil
 ·exact h
theorem lW (P:Program):∀(ts:List Nat) (cs:List V),(lJ P ts cs).length=cs.length
 | [],cs=>by simp[lJ]
 | t::ts,[]=>by simp[lJ]
 | t::ts,c::cs=>by simp[lJ,lW P ts cs]
theorem vV {P:Program} {ok:Nat->Prop} {w:World} {ρ:Rho}:∀(ts:List Nat) (cs:List V) (us:List Value),RepL ok w ρ cs us->RepL ok w ρ (lJ P ts cs) us
 | [],cs,us,h=>by simpa [lJ]using h
 | t::ts,[],us,h=>by simpa [lJ]using h
 | t::ts,c::cs,us,h=>by
  refine⟨by rw[lW]; exact h.1,λi x u hx hu=>?_⟩;cases us with
  | nil=>simp at hu
  | cons u0 us=>
   have ih:=vV (P:=P) ts cs us ⟨by have:=h.1; simp at this; exact this,λi c u hc hu=>h.2 (i+1) c u (by simpa using hc) (by simpa using hu)⟩;cases i with
   | zero=>simp[lJ]at hx hu; subst hx; subst hu; exact y_ t (h.2 0 c u0 (by simp) (by simp))
   | succ i=>exact ih.2 i x u (by simpa [lJ]using hx) (by simpa using hu)
theorem w9 {P:Program} {ok:Nat->Prop} {w:World} {ρ:Rho} (t:Nat) {x:V} {v:Value} (h:Rep ok w ρ x v):Rep ok w ρ (D0 P t x) v:=by
 unfold D0;split
 ·obtain⟨us,rfl,hl,h1,hr⟩:=h.agg_inv;have:=vV (P:=P) (kinds P 4 t) _ us ⟨hl,hr⟩;exact .agg _ us this.1 h1 this.2
 ·exact y_ t h
theorem sM (P:Program):∀(ts:List Nat) (cs:List V),(iX P ts cs).length=cs.length
 | [],cs=>by simp[iX]
 | t::ts,[]=>by simp[iX]
 | t::ts,c::cs=>by simp[iX,sM P ts cs]
theorem sN {P:Program} {ok:Nat->Prop} {w:World} {ρ:Rho}:∀(ts:List Nat) (cs:List V) (us:List Value),RepL ok w ρ cs us->RepL ok w ρ (iX P ts cs) us
 | [],cs,us,h=>by simpa [iX]using h
 | t::ts,[],us,h=>by simpa [iX]using h
 | t::ts,c::cs,us,h=>by
  refine⟨by rw[sM]; exact h.1,λi x u hx hu=>?_⟩;cases us with
  | nil=>simp at hu
  | cons u0 us=>
   have ih:=sN (P:=P) ts cs us ⟨by have:=h.1; simp at this; exact this,λi c u hc hu=>h.2 (i+1) c u (by simpa using hc) (by simpa using hu)⟩;cases i with
   | zero=>simp[iX]at hx hu; subst hx; subst hu; exact w9 t (h.2 0 c u0 (by simp) (by simp))
   | succ i=>exact ih.2 i x u (by simpa [iX]using hx) (by simpa using hu)
def EM (P:Program) (f:FuncId) (args:Array Value) (w:World) (R:Value->World->Prop):Prop:=
 ∀(o:Oper) (a:Act) (N:Act->World->Prop) (Q:Exit->Act->World->Prop),(∀ v w',R v w'->N (a.put o.dst v) w')->o.upon P a N Q ((callFunc f args).run P w)
def gh (w:World) (n:Nat) (ok:Nat->Prop):Gh:={ B:=w.heap.size,base:=n,w0:=w,ok0:=ok,ex:=λ_=>False }
def eB (H:List Blk):LK:=aq (H.map some)
def Ok (P:Program) (f:FuncId) (args:List V) (H:List Blk) (r:V) (H':List Blk):Prop:=
 ∀(w:World) (ρ:Rho) (ok:Nat->Prop) (vs:List Value),SimW (gh w H.length ok) w ρ (eB H)->(∀ n,H.length<=n->ρ n=none)->RepL (okc (gh w H.length ok) ρ (eB H)) w ρ args vs ->
  EM P f vs.toArray w λv w'=>∃ ρ',(∀ n,n<H.length->ρ' n=ρ n)/\(∀ n,H'.length<=n->ρ' n=none)/\SimW (gh w H.length ok) w' ρ' (eB H')/\Rep (okc (gh w H.length ok) ρ' (eB H')) w' ρ' r v
def mM (P:Program) (O:Dr):Prop:=∀ f args H k,O f args H k=true -> ∃ r H',Ok P f args H r H'/\k r H'=true
def FrB (md:Nat) (H H':List Blk):Prop:=match md with
 | 0=>True
 | 1=>∃ e sz c c' r tl,H=⟨e,sz,.cells (c::r)⟩::tl/\H'=⟨e,sz,.cells (c'::r)⟩::tl
 | 2=>H'=H
 | p+3=>∃ b',H'=H.set p b'
abbrev Fs0:=List V->List Blk->(V->List Blk->Bool)->Bool
open Classical in
def FrF (md:Nat) (F:Fs0):Prop:=∀ args H k,F args H k=true->F args H (λr H'=>k r H'&&decide (FrB md H H'))=true
open Classical in
theorem VF (F:Fs0):FrF 0 F:=by
 intro args H k h;have e:(λr H'=>k r H'&&decide (FrB 0 H H'))=k:=by funext r H';rw[afi (show FrB 0 H H' from trivial),ahB]
 rw[e];exact h
structure OS (cx:Cx):Prop where
 snd:mM cx.P cx.O
 fr:∀ g,FrF (nZ cx g) (cx.O g)
open Classical in
theorem OS.use {cx:Cx} (h:OS cx) {g:Nat} {args:List V} {H:List Blk} {k:V->List Blk->Bool} (hk:cx.O g args H k=true):∃ r H',Ok cx.P g args H r H'/\k r H'=true/\FrB (nZ cx g) H H':=by obtain⟨r,H',h1,h2⟩:=h.snd _ _ _ _ (h.fr g args H k hk);simp only[afK]at h2;exact⟨r,H',h1,h2.1,afp h2.2⟩
theorem OS.plain {cx:Cx} (h:mM cx.P cx.O) (h0:∀ g,nZ cx g=0 \/ ∀ args H k,cx.O g args H k=false):OS cx:=by
 refine⟨h,λg=>?_⟩;rcases h0 g with e | e
 ·rw[e]; exact VF _
 ·intro args H k hk; rw[e]at hk; cases hk
theorem kJ:∀{L:List Nat},kI L=true -> ∀(i j:Nat) n,L[i]? = some n->L[j]? = some n->i=j
 | [],_,i,j,n,hi,_=>by simp at hi
 | x::r,h,i,j,n,hi,hj=>by
  simp only[kI,afK,ais,List.contains_eq_mem,ahd]at h;cases i with
  | zero=>
   cases j with
   | zero=>rfl
   | succ j=>
    simp at hi hj; subst hi;exact absurd (List.mem_of_getElem? hj) h.1
  | succ i=>
   cases j with
   | zero=>
    simp at hi hj; subst hj;exact absurd (List.mem_of_getElem? hi) h.1
   | succ j=>simp at hi hj; rw[kJ h.2 i j n hi hj]
theorem vK {L:List Nat} {n i:Nat} (h:lz L n=some i):L[i]? = some n:=by unfold lz at h;rw[List.idxOf?_eq_some_iff]at h;obtain⟨hi,h1,_⟩:=h;simp[hi]; simpa using h1
theorem qP {M:aL} {n:Nat} {b:Blk} (h:aq M n=some b):n<M.length:=by
 unfold aq at h;split at h
 ·rename_i e; exact(List.getElem?_eq_some_iff.1 e).1
 ·cases h
theorem nX {H:List Blk} {i:Nat} {b:Blk}:eB H i=some b↔H[i]? = some b:=by unfold eB aq;simp only[List.getElem?_map];cases H[i]? <;> simp
theorem cM:∀(U:Upd) (L:LK) (n:Nat),n ∉ U.map (·.1)->bg L U n=L n
 | [],_,_,_=>rfl
 | (m,b)::r,L,n,h=>by simp only[agl,agJ,not_or]at h;rw[bg,cM r _ n h.2];simp[aI,h.1]
theorem fW:∀(U U':Upd) (L:LK),bg L (U++U')=bg (bg L U) U'
 | [],_,_=>rfl
 | (m,b)::r,U',L=>by rw[ahb,bg,bg,fW r]
theorem rk:∀(L:List Nat) (H:List Blk),L.length<=H.length->(fX L H).map (·.1)=L
 | [],_,_=>by simp[fX]
 | n::r,[],h=>by simp at h
 | n::r,b::H,h=>by simp[fX,rk r H (by simpa using h)]
theorem B2:∀(L:List Nat) (H:List Blk) (LK0:LK),kI L=true->L.length<=H.length -> ∀(i:Nat) n,L[i]? = some n->bg LK0 (fX L H) n=H[i]?
 | [],_,_,_,_,i,n,h=>by simp at h
 | x::r,[],_,_,h,_,_,_=>by simp at h
 | x::r,b::H,LK0,hn,hl,i,n,h=>by
  have hn':=hn;simp only[kI,afK,ais,List.contains_eq_mem,ahd]at hn;simp only[fX,bg];cases i with
  | zero=>
   simp at h; subst h;rw[cM _ _ _ (by rw[rk r H (by simpa using hl)]; exact hn.1)];simp[aI]
  | succ i=>
   rw[B2 r H _ hn.2 (by simpa using hl) i n (by simpa using h)];simp
theorem lS:∀(nm:Nat) (H:List Blk) (n:Nat),n ∈ (jm nm H).map (·.1)↔nm<=n/\n<nm+H.length
 | nm,[],n=>by simp only[jm,List.map_nil,aho,ahu,false_iff]; omega
 | nm,b::H,n=>by simp only[jm,agl,agJ,lS (nm+1) H n,afW];omega
theorem B1:∀(H:List Blk) (nm:Nat) (LK0:LK) (j:Nat),j<H.length->bg LK0 (jm nm H) (nm+j)=H[j]?
 | [],nm,LK0,j,h=>by simp at h
 | b::H,nm,LK0,0,_=>by
  simp only[jm,bg,afR];rw[cM _ _ _ (by rw[lS]; omega)];simp[aI]
 | b::H,nm,LK0,j+1,h=>by simp only[jm,bg];rw[show nm+(j+1)=nm+1+j from by omega,B1 H (nm+1) _ j (by simpa using h)];simp
def od (L:List Nat) (ρ:Rho):Rho:=λi=>match L[i]? with
 | some n=>ρ n
 | none=>none
def kP (nm cnt len:Nat) (ρ ρ':Rho):Rho:=λn=>if nm<=n/\n<nm+cnt then ρ' (len+(n - nm))else ρ n
mutual
theorem RJ {f g:Nat->Option Nat}:∀(v:V),(∀ n,n ∈ v.refs -> ∃ m,f n=some m/\g m=some n)->(v.ren f).ren g=v
 | .ptr n o,h=>by obtain⟨m,h1,h2⟩:=h n (by simp[V.refs]); simp[V.ren,h1,h2]
 | .slw n,h=>by obtain⟨m,h1,h2⟩:=h n (by simp[V.refs]); simp[V.ren,h1,h2]
 | .sl n o l,h=>by obtain⟨m,h1,h2⟩:=h n (by simp[V.refs]); simp[V.ren,h1,h2]
 | .opt n e o,h=>by obtain⟨m,h1,h2⟩:=h n (by simp[V.refs]); simp[V.ren,h1,h2]
 | .fn k caps,h=>by simp only[V.ren]; rw[lK caps (by simpa [V.refs]using h)]
 | .ro sz cs,h=>by simp only[V.ren]; rw[lK cs (by simpa [V.refs]using h)]
 | .rp cs i,h=>by simp only[V.ren]; rw[lK cs (by simpa [V.refs]using h)]
 | .agg cs,h=>by simp only[V.ren]; rw[lK cs (by simpa [V.refs]using h)]
 | .tup cs,h=>by simp only[V.ren]; rw[lK cs (by simpa [V.refs]using h)]
 | .any,_=>rfl
 | .nil,_=>rfl
 | .bool _,_=>rfl
 | .int _ _,_=>rfl
 | .flt _,_=>rfl
 | .val _,_=>rfl
 | .rof _,_=>rfl
 | .roi _ _,_=>rfl
 | .pf _ _,_=>rfl
 | .pi _ _ _,_=>rfl
 | .rl _ _,_=>rfl
theorem lK {f g:Nat->Option Nat}:∀(cs:List V),(∀ n,n ∈ mD cs -> ∃ m,f n=some m/\g m=some n)->ik g (ik f cs)=cs
 | [],_=>rfl
 | v::r,h=>by simp only[ik];rw[RJ v (λn hn=>h n (by simp[mD,hn])),lK r (λn hn=>h n (by simp[mD,hn]))]
end
theorem EX {f g:Nat->Option Nat} (b:Blk) (h:∀ n,n ∈ b.c.refs -> ∃ m,f n=some m/\g m=some n):(b.ren f).ren g=b:=by
 obtain⟨e,sz,c⟩:=b;cases c with
 | cells cs=>
  simp only[Blk.ren,Body.ren];rw[lK cs h]
 | _=>rfl
theorem K3 {L:List Nat} {n:Nat} (h:n ∈ L):∃ i,lz L n=some i:=by
 unfold lz;cases e:L.idxOf? n with
 | some i=>exact⟨i,rfl⟩
 | none=>exact absurd h (List.idxOf?_eq_none_iff.1 e)
theorem pg:∀(LL:List Nat) (bs:List Blk) (L:LK),(∀(i:Nat) n b,LL[i]? = some n->bs[i]? = some b->L n=some b)->bg L (fX LL bs)=L
 | [],bs,L,_=>by cases bs <;> rfl
 | n::r,[],L,_=>rfl
 | n::r,b::bs,L,h=>by
  have e:aI L n (some b)=L:=by
   funext m;unfold aI;split
   ·rename_i e; subst e; exact(h 0 _ b rfl rfl).symm
   ·rfl
  simp only[fX,bg,e];exact pg r bs L λi n b hn hb=>h (i+1) n b (by simpa using hn) (by simpa using hb)
theorem B3:∀(LL:List Nat) (bs:List Blk) (L:LK) (p:Nat) (B:Blk),kI LL=true->LL.length=bs.length->(∀(i:Nat) n b,LL[i]? = some n->bs[i]? = some b->L n=some b) ->
  bg L (fX LL (bs.set p B))=bg L (match LL.drop p,(bs.set p B).drop p with | n::_,b::_=>[(n,some b)] | _,_=>[])
 | [],[],L,p,B,_,_,_=>by simp[fX]
 | [],b::bs,L,p,B,_,h,_=>by simp at h
 | n::r,[],L,p,B,_,h,_=>by simp at h
 | n::r,b::bs,L,0,B,hnd,hlen,hL=>by
  simp only[List.set_cons_zero,agN,fX,bg];refine pg r bs _ λi m c hm hc=>?_
  have h3:=hL (i+1) m c (by simpa using hm) (by simpa using hc);unfold aI;rw[if_neg,h3];intro e;subst e;have:=kJ hnd (i+1) 0 _ (by simpa using hm) rfl;omega
 | n::r,b::bs,L,p+1,B,hnd,hlen,hL=>by
  have e:aI L n (some b)=L:=by
   funext m;unfold aI;split
   ·rename_i e; subst e; exact(hL 0 _ b rfl rfl).symm
   ·rfl
  have hnd':kI r=true:=by unfold kI at hnd;simp only[afK]at hnd;exact hnd.2
  simp only[List.set_cons_succ,List.drop_succ_cons,fX,bg,e];exact B3 r bs L p B hnd' (by simpa using hlen) λi m c hm hc=>hL (i+1) m c (by simpa using hm) (by simpa using hc)
theorem Ry {md:Nat} {LL:List Nat} {bs H:List Blk} {L:LK} {f g:Nat->Option Nat} (hnd:kI LL=true) (hlen:LL.length=bs.length) (hL:∀(i:Nat) n b,LL[i]? = some n->bs[i]? = some b->L n=some b)
  (hrt:md ≠ 0 -> ∀ b,b ∈ bs->(b.ren f).ren g=b) (hfr:FrB md (bs.map (Blk.ren f)) H):bg L (Iz md LL bs (H.map (Blk.ren g)))=bg L (fX LL ((H.map (Blk.ren g)).take LL.length)):=by
 match md,hrt,hfr with
 | 0,_,_=>rfl
 | 1,hrt,hfr=>
  obtain⟨e,sz,c,c',r,tl,h1,rfl⟩:=hfr;cases bs with
  | nil=>simp at h1
  | cons b0 bs'=>
   cases LL with
   | nil=>simp at hlen
   | cons n LL'=>
    simp only[agl,aiC]at h1;obtain⟨h1,rfl⟩:=h1;have hb0:=hrt (by decide) b0 (by simp);have htl:(bs'.map (Blk.ren f)).map (Blk.ren g)=bs':=by
     rw[ahe]
     conv=>rhs; rw[<- List.map_id bs']
     exact ahI λb hb=>hrt (by decide) b (afE _ hb)
    have hl:LL'.length=bs'.length:=by simpa using hlen
    obtain⟨e0,sz0,c0⟩:=b0;cases c0 with
    | cells cs=>
     simp only[Blk.ren,Body.ren,Blk.mk.injEq,Body.cells.injEq]at h1 hb0;obtain⟨rfl,rfl,h1⟩:=h1;cases cs with
     | nil=>simp[ik]at h1
     | cons d ds=>
      simp only[ik,aiC]at h1 hb0;obtain⟨-,rfl⟩:=h1;have hds:ik g (ik f ds)=ds:=hb0.2.2.2;simp only[Iz,agl,afW,aib,fX,bg,Blk.ren,Body.ren,ik,FI,hds];rw[htl,hl,af3];rw[pg];intro i m b hm hb;have h3:=hL (i+1) m b (by simpa using hm) (by simpa using hb);unfold aI;rw[if_neg,h3];intro e;subst e;have:=kJ hnd (i+1) 0 _ (by simpa using hm) rfl;omega
    | flts _=>simp[Blk.ren,Body.ren]at h1
    | ints _ _=>simp[Blk.ren,Body.ren]at h1
    | recs _ _=>simp[Blk.ren,Body.ren]at h1
    | own _ _ _ _=>simp[Blk.ren,Body.ren]at h1
 | 2,hrt,hfr=>
  have hfr:H=bs.map (Blk.ren f):=hfr;have htl:(bs.map (Blk.ren f)).map (Blk.ren g)=bs:=by
   rw[ahe]
   conv=>rhs; rw[<- List.map_id bs]
   exact ahI λb hb=>hrt (by omega) b hb
  show bg L []=_;rw[hfr,htl,hlen,af3,pg _ _ _ hL];rfl
 | p+3,hrt,hfr=>
  obtain⟨B,hfr⟩:=hfr;have htl:(bs.map (Blk.ren f)).map (Blk.ren g)=bs:=by
   rw[ahe]
   conv=>rhs; rw[<- List.map_id bs]
   exact ahI λb hb=>hrt (by omega) b hb
  have e:H.map (Blk.ren g)=bs.set p (B.ren g):=by rw[hfr,List.map_set,htl]
  rw[e,afH (by rw[ahP]; omega),B3 LL bs L p (B.ren g) hnd hlen hL];rfl
theorem qN {f:V->(V->Bool)->Bool} {g:V->Option V} (hf:∀ v k,f v k=true -> ∃ v',g v=some v'/\k v'=true):∀(vs:List V) (k:List V->Bool),Ba f vs k=true -> ∃ vs',vs.mapM g=some vs'/\k vs'=true
 | [],k,h=>⟨[],by simp,h⟩
 | v::r,k,h=>by simp only[Ba]at h;obtain⟨v',h1,h2⟩:=hf _ _ h;obtain⟨r',h3,h4⟩:=qN hf r _ h2;exact⟨v'::r',by simp[List.mapM_cons,h1,h3],h4⟩
theorem yX {M:aL}:∀(d:Nat) (v:V) (k:V->Bool),Gf M d v k=true -> ∃ v',jS M d v=some v'/\k v'=true
 | 0,_,_,h=>by cases h
 | d+1,v,k,h=>by
  have plain:(match jS M (d+1) v with | some v'=>k v' | none=>false)=true -> ∃ v',jS M (d+1) v=some v'/\k v'=true:=by
   intro h;split at h
   ·rename_i v' e; exact⟨v',e,h⟩
   ·cases h
  cases v with
  | sl n o len=>
   simp only[Gf]at h;split at h
   ·rename_i e xs hL;obtain⟨h1,h2⟩:=and_true h;refine⟨_,?_,h2⟩;simp[jS,hL,Body.cut,cY,afp h1]
   ·rename_i e q xs hL;obtain⟨h1,h2⟩:=and_true h;refine⟨_,?_,h2⟩;simp[jS,hL,Body.cut,cY,afp h1]
   ·exact plain h
  | agg cs=>
   simp only[Gf]at h;obtain⟨cs',h1,h2⟩:=qN (yX d) cs _ h;exact⟨_,by simp[jS,h1],h2⟩
  | _=>exact plain h
def Tail (a b:Option Blk):Prop:=a=b \/ ∃ e sz v v' r,a=some ⟨e,sz,.cells (v::r)⟩/\b=some ⟨e,sz,.cells (v'::r)⟩
theorem Tail.symm {a b:Option Blk} (h:Tail a b):Tail b a:=by
 rcases h with rfl | ⟨e,sz,v,v',r,h1,h2⟩
 ·exact .inl rfl
 ·exact .inr ⟨e,sz,v',v,r,h2,h1⟩
theorem Tail.trans {a b c:Option Blk} (h:Tail a b) (h':Tail b c):Tail a c:=by
 rcases h with rfl | ⟨e,sz,v,v',r,h1,h2⟩
 ·exact h'
 ·rcases h' with rfl | ⟨e2,sz2,w,w',r2,k1,k2⟩
  ·exact .inr ⟨e,sz,v,v',r,h1,h2⟩
  ·rw[h2]at k1;simp only[afN,Blk.mk.injEq,Body.cells.injEq,aiC]at k1;obtain⟨rfl,rfl,-,rfl⟩:=k1;exact .inr ⟨e,sz,v,w',r,h1,k2⟩
theorem Mx (b b':Blk):Tail (some b) (some (FI b b')):=by
 obtain⟨e,sz,c⟩:=b;obtain⟨e',sz',c'⟩:=b';unfold FI;cases c with
 | cells cs=>
  cases c' with
  | cells cs'=>
   cases cs with
   | nil=>exact .inl rfl
   | cons v r=>
    cases cs' with
    | nil=>exact .inl rfl
    | cons v' r'=>exact .inr ⟨e,sz,v,v',r,rfl,rfl⟩
  | _=>cases cs <;> exact .inl rfl
 | _=>exact .inl rfl
theorem KE {cx:Cx} {M:aL} {g:Nat} {vs:List V} {k:KOp} (h:Af cx M g vs k=true):Hv cx M g vs k=true:=by
 unfold Af at h;unfold Hv;split at h
 ·cases h
 ·rename_i fn hfn
  try rw[hfn]
  try simp only
  cases hr:cx.ref g with
  | true=>
   rw[hr,afl]at h
   try simp only[afl]
   exact h
  | false=>
   rw[hr,afk]at h;obtain⟨vs1,h1,h2⟩:=qN (yX 4) vs _ h
   try simp only[afk,h1]
   exact h2
theorem oC {cx:Cx} (hO:OS cx) {base:Nat} {M:aL} {g:Nat} {vs:List V} {k:KOp} (h:Af cx M g vs k=true) :
  ∃ x U T,k x U T=true/\(nZ cx g=1 -> ∀ n,n<M.length->Tail (aq M n) (bg (aq M) U n)) /\ ∀(G:Gh) (w:World) (ρ:Rho) (L:LK) (us:List Value),G.base=base->base<=M.length->SimW G w ρ L->RepL (okc G ρ L) w ρ vs us->(∀ n,n ∈ T->L n=aq M n)->(∀ n b,(n,b) ∈ U->M.length<=n->ρ n=none/\base<=n) ->
   EM cx.P g us.toArray w λv w'=>∃ ρ',SimW G w' ρ' (bg L U)/\Rep (okc G ρ' (bg L U)) w' ρ' x v/\Keeps (okc G ρ L) w ρ (okc G ρ' (bg L U)) w' ρ'/\(∀ n,ρ' n ≠ ρ n->n ∈ U.map (·.1))/\(∀ n p b,ρ' n ≠ ρ n->ρ' n=some (some p)->p.has b->w.heap.size<=b)/\(nZ cx g=0 -> ∀ n blk p b,n ∉ U.map (·.1)->L n=some blk->ρ n=some (some p)->hasB p blk.c b->w'.heap[b]? = w.heap[b]?):=by
 have h:=KE h;unfold Hv at h;split at h
 ·cases h
 ·rename_i fn hfn;split at h
  ·cases h
  ·rename_i vs1 hvs1;generalize hB:cond (cx.ref g) [] ((vs.map (mP M 4)).flatten)=B at h;unfold Jj at h;simp only at h;generalize hvs2:iX cx.P fn.params.toList vs1=vs2 at h;generalize hLL:Da M 3 (Jn (mD vs2))=LL at h;split at h
   ·cases h
   ·rename_i bs hbs;obtain⟨hnd00,h1⟩:=and_true h;obtain⟨hnd0,hclosed⟩:=and_true hnd00;obtain⟨hnd,hnh⟩:=and_true hnd0;obtain⟨hdis,h2⟩:=and_true h1;obtain⟨r,H,hok,h3,hfr⟩:=hO.use h2;obtain⟨h4,h5⟩:=and_true h3;obtain⟨h6,h7⟩:=and_true h5;clear h h1 h2 h3 h5;have hlen:LL.length<=H.length:=afp h4;have hdis':∀ n,n ∈ B->n ∉ LL:=by intro n hn;have:=List.all_eq_true.1 hdis n hn;simpa using this
    obtain⟨hbl,hbg⟩:=pU hbs;refine⟨_,_,_,h7,λhm1 n hn=>?_,?_⟩
    ·rw[fW,cM _ _ _ (by rw[lS]; omega),hm1]
     match LL,bs,hbl,hbg with
     | [],_,_,_=>exact .inl rfl
     | n0::LL',b0::bs',_,hbg=>
      cases H with
      | nil=>exact .inl rfl
      | cons b' H'=>
       obtain⟨n',g1,g2⟩:=hbg 0 b0 rfl;simp only[List.getElem?_cons_zero,afN]at g1;subst g1;show Tail (aq M n) (aI (aq M) n0 (some (FI b0 _)) n);unfold aI;split
       ·rename_i e;subst e;rw[g2];exact Mx _ _
       ·exact .inl rfl
    intro G w ρ L us hbase hbM hsim hargs hagree hnew;have hnoh:∀(i:Nat) b,bs[i]? = some b->b.c.holes=[]:=λi b hb=>by have:=List.all_eq_true.1 hnh b (List.mem_of_getElem? hb);simpa using this
    have hLL':∀(i:Nat) n,LL[i]? = some n -> ∃ b,bs[i]? = some b/\L n=some b/\aq M n=some b:=by
     intro i n hi;have hlt:i<bs.length:=by rw[<- hbl]; exact(List.getElem?_eq_some_iff.1 hi).1
     obtain⟨n',h1,h2⟩:=hbg i bs[i] (by simp[hlt]);rw[hi]at h1; cases h1;exact⟨bs[i],by simp[hlt],by rw[hagree n (by simp[List.mem_of_getElem? hi]),h2],h2⟩
    have hvs2r:RepL (okL (okc G ρ L) ρ L B) w ρ vs2 us:=by
     rw[<- hvs2];refine sN _ _ _ ?_;cases hr:cx.ref g with
     | true=>
      simp only[hr,afl,afN]at hvs1;rw[<- hvs1]; exact hargs.mono (pT B)
     | false=>
      simp only[hr,afk]at hvs1 hB;obtain⟨m1,m2⟩:=pU hvs1;refine⟨by rw[<- m1]; exact hargs.1,λi c u hc hu=>?_⟩;obtain⟨a,ha,hla⟩:=m2 i c hc;exact nW hsim B (λn hn=>hagree n (by simp[hn])) 4 a c u hla (λn hn=>by rw[<- hB]; exact gD (List.mem_of_getElem? ha) hn) (hargs.2 i a u ha hu)
    have hin:∀ n m q,lz LL n=some m->ρ n=some q->od LL ρ m=some q:=by intro n m q hm hq;simp[od,vK hm,hq]
    have hliveIn:∀ i b,eB (bs.map (Blk.ren (lz LL))) i=some b -> ∃ n b0,LL[i]? = some n/\L n=some b0/\bs[i]? = some b0/\b=b0.ren (lz LL):=by
     intro i b hb;rw[nX,List.getElem?_map]at hb;obtain⟨b0,hb0,rfl⟩:=Option.map_eq_some_iff.1 hb;have hi:i<LL.length:=by rw[hbl]; exact(List.getElem?_eq_some_iff.1 hb0).1
     obtain⟨b1,g1,g2,g3⟩:=hLL' i LL[i] (by simp[hi]);rw[hb0]at g1; cases g1;exact⟨LL[i],b0,by simp[hi],g2,hb0,rfl⟩
    have hlenIn:(bs.map (Blk.ren (lz LL))).length=LL.length:=by simp[hbl]
    have hplace:∀ i n p,LL[i]? = some n->(od LL ρ i=some (some p)↔ρ n=some (some p)):=by intro i n p hi; simp[od,hi]
    have hokin:∀ b,okL (okc G ρ L) ρ L B b->okc (gh w LL.length (okL (okc G ρ L) ρ L B)) (od LL ρ) (eB (bs.map (Blk.ren (lz LL)))) b:=by
     intro b hb;refine⟨.inl hb,λi bl p hi hp hh=>?_⟩;obtain⟨n,b0,e1,e2,e3,rfl⟩:=hliveIn i bl hi;have hp':=(hplace i n p e1).1 hp;have hh:hasB p b0.c b:=(iv _).1 hh;rcases hb with hb | ⟨m,q,bm,hm,hlm,hq,hqb⟩
     ·exact hb.2 n b0 p e2 hp' hh
     ·have:=hsim.inj n m b0 bm p q e2 hlm hp' hq b hh hqb;subst this;exact hdis' n hm (List.mem_of_getElem? e1)
    have hkin:Keeps (okL (okc G ρ L) ρ L B) w ρ (okc (gh w LL.length (okL (okc G ρ L) ρ L B)) (od LL ρ) (eB (bs.map (Blk.ren (lz LL))))) w ρ:=
     ⟨λ_ _ h=>h,λb _ hb=>⟨hokin b hb,rfl⟩,afw _⟩
    have hsimIn:SimW (gh w (bs.map (Blk.ren (lz LL))).length (okL (okc G ρ L) ρ L B)) w (od LL ρ) (eB (bs.map (Blk.ren (lz LL)))):=by
     rw[hlenIn];refine⟨?_,?_,?_,afw _,rfl,rfl,rfl,λ_ _ _ _=>rfl,λb zs e=>⟨.inl ⟨.inl (hsim.tab b zs e).1,λn bl p _ hp he=>hsim.apartB hp e he.has⟩,(hsim.tab b zs e).2⟩,?_⟩
     ·intro i bl hi;obtain⟨n,b0,e1,e2,e3,rfl⟩:=hliveIn i bl hi;obtain⟨q,hq,hb⟩:=hsim.blks n b0 e2;exact⟨q,by simp[od,e1,hq],BlkAt.ren hin ((hb.of (pT B) λ_ _ _ _=>rfl).of hkin λ_ _ _ _=>rfl)⟩
     ·intro i j bi bj p q hi hj hp hq b hb1 hb2;obtain⟨n,b0,e1,e2,_,rfl⟩:=hliveIn i bi hi;obtain⟨m,b1,e3,e4,_,rfl⟩:=hliveIn j bj hj;have:=hsim.inj n m b0 b1 p q e2 e4 ((hplace i n p e1).1 hp) ((hplace j m q e3).1 hq) b ((iv _).1 hb1) ((iv _).1 hb2);subst this;exact kJ hnd i j n e1 e3
     ·intro i p hi hp b hb;have hi:LL.length<=i:=hi;simp[od,hi]at hp
     ·intro i p hp;unfold od at hp;split at hp
      ·rename_i n hn;exact hsim.high n p hp
      ·cases hp
    have hargsIn:RepL (okc (gh w (bs.map (Blk.ren (lz LL))).length (okL (okc G ρ L) ρ L B)) (od LL ρ) (eB (bs.map (Blk.ren (lz LL))))) w (od LL ρ) (ik (lz LL) vs2) us:=by rw[hlenIn]; exact(hvs2r.mono hkin).ren hin
    have hcall:=hok w (od LL ρ) (okL (okc G ρ L) ρ L B) us hsimIn (λn hn=>by rw[hlenIn]at hn; simp[od,hn]) hargsIn;intro o a N Q hN;refine hcall o a N Q λv w' hR=>hN v w' ?_
    obtain⟨ρ',hρ1,hρ2,hsim',hrep'⟩:=hR;rw[hlenIn]at hρ1 hsim' hrep';generalize hf2:(λi=>cond (decide (i<LL.length)) (LL[i]?) (some (M.length+(i - LL.length))))=f2 at h6 hnew ⊢;have hf2lt:∀ i,i<LL.length->f2 i=LL[i]?:=λi hi=>by rw[<- hf2]; simp[hi]
    have hf2ge:∀ i,LL.length<=i->f2 i=some (M.length+(i - LL.length)):=λi hi=>by rw[<- hf2]; simp[show ¬ i<LL.length by omega]
    have hdl0:((H.map (Blk.ren f2)).drop LL.length).length=H.length - LL.length:=by simp
    have eU:bg L (Iz (nZ cx g) LL bs (H.map (Blk.ren f2))++jm M.length ((H.map (Blk.ren f2)).drop LL.length))=bg L (fX LL ((H.map (Blk.ren f2)).take LL.length)++jm M.length ((H.map (Blk.ren f2)).drop LL.length)):=by
     rw[fW,fW];congr 1;refine Ry hnd hbl (λi n b hn hb=>?_) (λh0 b hb=>EX b λn hn=>?_) hfr
     ·obtain⟨b',g1,g2,_⟩:=hLL' i n hn;rw[hb]at g1; cases g1; exact g2
     ·have hc:bs.all (λb=>b.c.refs.all λn=>LL.contains n)=true:=by
       cases e0:nZ cx g==0 with
       | true=>exact absurd (by simpa using e0) h0
       | false=>rw[e0,aiv]at hclosed; exact hclosed
      have hm:=List.all_eq_true.1 (List.all_eq_true.1 hc b hb) n hn;have hm:n ∈ LL:=by simpa using hm
      obtain⟨i,hi⟩:=K3 hm;refine⟨i,hi,?_⟩;have h5:=vK hi;rw[hf2lt i (List.getElem?_eq_some_iff.1 h5).1,h5]
    have hnew':∀ n b,(n,b) ∈ fX LL ((H.map (Blk.ren f2)).take LL.length)++jm M.length ((H.map (Blk.ren f2)).drop LL.length)->M.length<=n->ρ n=none/\base<=n:=by
     intro n b hm hge;rcases List.mem_append.1 hm with h | h
     ·exfalso;have h1:n ∈ (fX LL ((H.map (Blk.ren f2)).take LL.length)).map (·.1):=List.mem_map.2 ⟨_,h,rfl⟩;rw[rk _ _ (by simp; omega)]at h1;obtain⟨i,hi,rfl⟩:=ag2 h1;obtain⟨b,_,_,hb⟩:=hLL' i LL[i] (by simp[hi]);have:=qP hb; omega
     ·exact hnew n b (agk _ h) hge
    have hsub:∀ n,M.length<=n/\n<M.length+(H.length - LL.length)->n ∈ (Iz (nZ cx g) LL bs (H.map (Blk.ren f2))++jm M.length ((H.map (Blk.ren f2)).drop LL.length)).map (·.1):=by intro n hn;rw[ag6,ahQ,lS,hdl0];exact .inr hn
    have hmd0:nZ cx g=0->Iz (nZ cx g) LL bs (H.map (Blk.ren f2))++jm M.length ((H.map (Blk.ren f2)).drop LL.length)=fX LL ((H.map (Blk.ren f2)).take LL.length)++jm M.length ((H.map (Blk.ren f2)).drop LL.length):=by intro e; rw[e]; rfl
    rw[eU];generalize Iz (nZ cx g) LL bs (H.map (Blk.ren f2))++jm M.length ((H.map (Blk.ren f2)).drop LL.length)=U1 at hsub hmd0 ⊢;clear hnew;have hnew:=hnew';clear hnew' eU hdl0;generalize hU:fX LL ((H.map (Blk.ren f2)).take LL.length)++jm M.length ((H.map (Blk.ren f2)).drop LL.length)=U at hnew hmd0 ⊢;have htake:LL.length<=((H.map (Blk.ren f2)).take LL.length).length:=by simp; omega
    have hdl:((H.map (Blk.ren f2)).drop LL.length).length=H.length - LL.length:=by simp
    have hmemU:∀ n,n ∈ U.map (·.1)↔n ∈ LL\/(M.length<=n/\n<M.length+(H.length - LL.length)):=by intro n;rw[<- hU,ag6,ahQ,rk _ _ htake,lS,hdl]
    have hLLlt:∀ n,n ∈ LL->n<M.length:=by intro n hn;obtain⟨i,hi,rfl⟩:=ag2 hn;obtain⟨b,_,_,hb⟩:=hLL' i LL[i] (by simp[hi]);exact qP hb
    have hnone:∀ n,M.length<=n->n<M.length+(H.length - LL.length)->ρ n=none:=by intro n h1 h2;have hm:n ∈ U.map (·.1):=(hmemU n).2 (.inr ⟨h1,h2⟩);obtain⟨⟨m,b⟩,hmb,hme⟩:=List.mem_map.1 hm;subst hme;exact(hnew m b hmb h1).1
    have hout:∀ n,¬(M.length<=n/\n<M.length+(H.length - LL.length))->kP M.length (H.length - LL.length) LL.length ρ ρ' n=ρ n:=λn hn=>if_neg hn
    have houtN:∀ j,j<H.length - LL.length->kP M.length (H.length - LL.length) LL.length ρ ρ' (M.length+j)=ρ' (LL.length+j):=by intro j hj;unfold kP;rw[if_pos (by omega),show M.length+j - M.length=j from by omega]
    have hρin:∀(i:Nat) n,LL[i]? = some n->ρ' i=ρ n:=by intro i n hi;have hlt:=(List.getElem?_eq_some_iff.1 hi).1;rw[hρ1 i hlt];simp[od,hi]
    have hff:∀ i m q,f2 i=some m->ρ' i=some q->kP M.length (H.length - LL.length) LL.length ρ ρ' m=some q:=by
     intro i m q hm hq;by_cases hi:i<LL.length
     ·rw[hf2lt i hi]at hm;rw[hout m (by have:=hLLlt m (List.mem_of_getElem? hm); omega),<- hρin i m hm,hq]
     ·rw[hf2ge i (by omega)]at hm;cases hm;have hiH:i<H.length:=by
       rcases agb i H.length with h | h
       ·exact h
       ·rw[hρ2 i h]at hq; cases hq
      rw[houtN _ (by omega),show LL.length+(i - LL.length)=i from by omega,hq]
    have hmono:∀ n q,ρ n=some q->kP M.length (H.length - LL.length) LL.length ρ ρ' n=some q:=by intro n q hq;rw[hout n (λh=>by rw[hnone n h.1 h.2]at hq; cases hq),hq]
    have hcls:∀ n bl,bg L U n=some bl->(∃ i b0,eB H i=some b0/\f2 i=some n/\bl=b0.ren f2/\kP M.length (H.length - LL.length) LL.length ρ ρ' n=ρ' i) \/
      (n ∉ LL/\¬(M.length<=n/\n<M.length+(H.length - LL.length))/\L n=some bl/\kP M.length (H.length - LL.length) LL.length ρ ρ' n=ρ n):=by
     intro n bl hn;by_cases h1:M.length<=n/\n<M.length+(H.length - LL.length)
     ·left;obtain⟨j,rfl⟩:∃ j,n=M.length+j:=⟨n - M.length,by omega⟩
      have hj:j<H.length - LL.length:=by omega
      rw[<- hU,fW,B1 _ _ _ _ (by rw[hdl]; exact hj),List.getElem?_drop,List.getElem?_map]at hn;obtain⟨b0,hb0,rfl⟩:=Option.map_eq_some_iff.1 hn;exact⟨LL.length+j,b0,nX.2 hb0,by rw[hf2ge _ (by omega)]; congr 1; omega,rfl,houtN j hj⟩
     ·by_cases h2:n ∈ LL
      ·left;obtain⟨i,hi,rfl⟩:=ag2 h2;have hii:LL[i]? = some LL[i]:=by simp[hi]
       rw[<- hU,fW,cM _ _ _ (by rw[lS,hdl]; exact h1),B2 _ _ _ hnd htake i _ hii,List.getElem?_take,if_pos hi,List.getElem?_map]at hn;obtain⟨b0,hb0,rfl⟩:=Option.map_eq_some_iff.1 hn;exact⟨i,b0,nX.2 hb0,by rw[hf2lt i hi,hii],rfl,by rw[hout _ h1,hρin i _ hii]⟩
      ·right;rw[cM _ _ _ (λhm=>by rcases (hmemU n).1 hm with h | h; exact h2 h; exact h1 h)]at hn;exact⟨h2,h1,hn,hout n h1⟩
    have hnewB:∀ i p b,LL.length<=i->ρ' i=some (some p)->p.has b->w.heap.size<=b:=by
     intro i p b hi hp hh;rcases hsim'.own i p hi hp b hh with h | h
     ·exact h
     ·exact h.elim
    have hplaceLL:∀(i:Nat) p,i<LL.length->ρ' i=some (some p) -> ∃ b,L LL[i]! = some b/\ρ LL[i]! = some (some p)/\LL[i]? = some LL[i]! /\ ∀ x,p.has x->hasB p b.c x:=by
     intro i p hi hp;have hii:LL[i]? = some LL[i]:=by simp[hi]
     obtain⟨b,hbs,hb,_⟩:=hLL' i LL[i] hii;have e:LL[i]! = LL[i]:=by simp[hi]
     rw[e];exact⟨b,hb,by rw[<- hρin i _ hii]; exact hp,hii,λx hx=>Q0 (hnoh i b hbs) hx⟩
    have hnotlive:∀ b,b<w.heap.size->okc G ρ L b->okc G (kP M.length (H.length - LL.length) LL.length ρ ρ') (bg L U) b:=by
     intro b hb ho;refine⟨ho.1,λn bl p hn hp hh=>?_⟩;rcases hcls n bl hn with⟨i,b0,h1,h2,_,h4⟩ | ⟨h1,h2,h3,h4⟩
     ·rw[h4]at hp;by_cases hi:i<LL.length
      ·obtain⟨b',hb',hp',_,hhb⟩:=hplaceLL i p hi hp;exact ho.2 _ b' p hb' hp' (hhb _ hh.has)
      ·have h5:=hnewB i p b (by omega) hp hh.has;omega
     ·rw[h4]at hp; exact ho.2 n bl p h3 hp hh
    have hheap:∀ b,b<w.heap.size->(∀(i:Nat) p,i<LL.length->ρ' i=some (some p)->¬ p.has b)->w'.heap[b]? = w.heap[b]?:=λb hb hno=>hsim'.old b hb (λh=>h) hno
    have hkeep:Keeps (okc G ρ L) w ρ (okc G (kP M.length (H.length - LL.length) LL.length ρ ρ') (bg L U)) w' (kP M.length (H.length - LL.length) LL.length ρ ρ'):=by refine⟨hmono,λb hb ho=>⟨hnotlive b hb ho,hheap b hb λi p hi hp hh=>?_⟩,hsim'.size⟩;obtain⟨b',hb',hp',_,hhb⟩:=hplaceLL i p hi hp;exact ho.2 _ b' p hb' hp' (hhb _ hh)
    have hback:B=[]->Keeps (okc (gh w LL.length (okL (okc G ρ L) ρ L B)) ρ' (eB H)) w' ρ' (okc G (kP M.length (H.length - LL.length) LL.length ρ ρ') (bg L U)) w' ρ':=by
     intro hBn;refine⟨λ_ _ h=>h,λb _ ho=>⟨?_,rfl⟩,afw _⟩;have hC:okc G ρ L b\/w.heap.size<=b:=by
      rcases ho.1 with h | h
      ·rcases h with h | ⟨n,p,bl,hn,_⟩
       ·exact .inl h
       ·rw[hBn]at hn; cases hn
      ·exact .inr h
     refine⟨?_,λn bl p hn hp hh=>?_⟩
     ·rcases hC with h | h
      ·exact h.1
      ·exact .inr (afG hsim.size h)
     ·rcases hcls n bl hn with⟨i,b0,h1,h2,h3,h4⟩ | ⟨h1,h2,h3,h4⟩
      ·rw[h4]at hp; subst h3; exact ho.2 i b0 p h1 hp ((iv _).1 hh)
      ·rw[h4]at hp;rcases hC with h | h
       ·exact h.2 n bl p h3 hp hh
       ·have:=hsim.ltB h3 hp hh; omega
    have hbody:∀(i:Nat) (b0:Blk) q,H[i]? = some b0->BlkAt (okc (gh w LL.length (okL (okc G ρ L) ρ L B)) ρ' (eB H)) w' ρ' q b0->BlkAt (okc G (kP M.length (H.length - LL.length) LL.length ρ ρ') (bg L U)) w' (kP M.length (H.length - LL.length) LL.length ρ ρ') q (b0.ren f2):=by
     intro i b0 q hi hb;cases hBe:B.isEmpty with
     | true=>exact BlkAt.ren hff (hb.of (hback (List.isEmpty_iff.1 hBe)) λ_ _ _ _=>rfl)
     | false=>
      rw[hBe,aiv]at h6;have h7:=(and_true h6).2;have h8:=List.all_eq_true.1 h7 (b0.ren f2) (List.mem_map.2 ⟨b0,List.mem_of_getElem? hi,rfl⟩);have h9:=BlkAt.ren (blk:=b0) hff hb;exact h9.free h8
    refine⟨kP M.length (H.length - LL.length) LL.length ρ ρ',⟨?_,?_,?_,afG hsim.size hsim'.size,hsim'.os.trans hsim.os,hsim'.tape.trans hsim.tape,hsim'.output.trans hsim.output,?_,λb zs e=>⟨(hsim.tab b zs e).1,(hsim'.tab b zs e).2⟩,?_⟩,?_,hkeep,?_,?_,?_⟩
    ·intro n bl hn;rcases hcls n bl hn with⟨i,b0,g1,g2,rfl,g4⟩ | ⟨g1,g2,g3,g4⟩
     ·obtain⟨q,hq,hb⟩:=hsim'.blks i b0 g1;exact⟨q,by rw[g4]; exact hq,hbody i b0 q (nX.1 g1) hb⟩
     ·obtain⟨q,hq,hb⟩:=hsim.blks n bl g3;refine⟨q,by rw[g4]; exact hq,hb.of hkeep λp b hqp hh=>?_⟩;refine hheap b (hsim.ltB g3 (by rw[hq,hqp]) hh) λi p' hi hp' he=>?_
      obtain⟨b',hb',hp'',hii,hhb⟩:=hplaceLL i p' hi hp';have:=hsim.inj _ n b' bl p' p hb' g3 hp'' (by rw[hq,hqp]) b (hhb _ he) hh;exact g1 (this ▸ List.mem_of_getElem? hii)
    ·intro n m bn bm p q hn hm hp hq b hb1 hb2;have mixed:∀ i (b0:Blk) m bm p q,eB H i=some b0->ρ' i=some (some p)->m ∉ LL->L m=some bm->ρ m=some (some q)->hasB p b0.c b->hasB q bm.c b->False:=by
      intro i b0 m bm p q h1 h2 h3 h4 h5 he1 he2;by_cases hi:i<LL.length
      ·obtain⟨b',hb',hp',hii,hhb⟩:=hplaceLL i p hi h2;have:=hsim.inj _ m b' bm p q hb' h4 hp' h5 b (hhb _ he1.has) he2;exact h3 (this ▸ List.mem_of_getElem? hii)
      ·have h6:=hnewB i p b (by omega) h2 he1.has;have:=hsim.ltB h4 h5 he2; omega
     rcases hcls n bn hn with⟨i,b0,g1,g2,g3,g4⟩ | ⟨g1,g2,g3,g4⟩ <;> rcases hcls m bm hm with⟨j,b1,k1,k2,k3,k4⟩ | ⟨k1,k2,k3,k4⟩
     ·rw[g4]at hp; rw[k4]at hq;subst g3; subst k3;have:=hsim'.inj i j b0 b1 p q g1 k1 hp hq b ((iv _).1 hb1) ((iv _).1 hb2);subst this;rw[g2]at k2; exact Option.some.inj k2
     ·rw[g4]at hp; rw[k4]at hq;subst g3;exact(mixed i b0 m bm p q g1 hp k1 k3 hq ((iv _).1 hb1) hb2).elim
     ·rw[g4]at hp; rw[k4]at hq;subst k3;exact(mixed j b1 n bn q p k1 hq g1 g3 hp ((iv _).1 hb2) hb1).elim
     ·rw[g4]at hp; rw[k4]at hq;exact hsim.inj n m bn bm p q g3 k3 hp hq b hb1 hb2
    ·intro n p hn hp b hb;by_cases h1:M.length<=n/\n<M.length+(H.length - LL.length)
     ·obtain⟨j,rfl⟩:∃ j,n=M.length+j:=⟨n - M.length,by omega⟩
      rw[houtN j (by omega)]at hp;have h5:=hnewB _ p b (show LL.length<=LL.length+j by omega) hp hb;exact .inl (afG hsim.size h5)
     ·rw[hout n h1]at hp; exact hsim.own n p hn hp b hb
    ·intro b hb hex hno;rw[hheap b (afD hb hsim.size) λi p hi hp hh=>?_]
     ·exact hsim.old b hb hex λn p hn hp=>hno n p hn (hmono n _ hp)
     ·obtain⟨b',hb',hp',hii,hhb⟩:=hplaceLL i p hi hp;by_cases hlt:LL[i]! < G.base
      ·exact hno _ p hlt (hmono _ _ hp') hh
      ·rcases hsim.own _ p (by omega) hp' b hh with h5 | h5
       ·omega
       ·exact hex h5
    ·intro n p hp;by_cases h1:M.length<=n/\n<M.length+(H.length - LL.length)
     ·obtain⟨j,rfl⟩:∃ j,n=M.length+j:=⟨n - M.length,by omega⟩
      rw[houtN j (by omega)]at hp;exact hsim'.high _ p hp
     ·rw[hout n h1]at hp; exact hsim.high n p hp
    ·cases hBe:B.isEmpty with
     | true=>exact nC hff (hrep'.mono (hback (List.isEmpty_iff.1 hBe)))
     | false=>
      rw[hBe,aiv]at h6;exact wM (nC hff hrep') (and_true h6).1
    ·intro n hne;by_cases h1:M.length<=n/\n<M.length+(H.length - LL.length)
     ·exact hsub n h1
     ·exact absurd (hout n h1) hne
    ·intro n p b hne hp hb;by_cases h1:M.length<=n/\n<M.length+(H.length - LL.length)
     ·obtain⟨j,rfl⟩:∃ j,n=M.length+j:=⟨n - M.length,by omega⟩
      rw[houtN j (by omega)]at hp;exact hnewB _ p b (show LL.length<=LL.length+j by omega) hp hb
     ·exact absurd (hout n h1) hne
    ·intro hm0 n blk p b hn hL hp hh;rw[hmd0 hm0]at hn;refine hheap b (hsim.ltB hL hp hh) λi p' hi hp' he=>?_
     obtain⟨b',hb',hp'',hii,hhb⟩:=hplaceLL i p' hi hp';have:=hsim.inj _ n b' blk p' p hb' hL hp'' hp b (hhb _ he) hh;exact hn ((hmemU n).2 (.inl (this ▸ List.mem_of_getElem? hii)))
theorem D9 (M:aL) (n:Nat) (b:Option Blk):(za M n b).length=max M.length (n+1):=by
 unfold za;by_cases h:n<M.length
 ·simp only[h,aiu,afl,ahP]; omega
 ·simp only[h,aim,afk,agy,agI,afW,ahu]; omega
theorem vQ (M:aL) (n:Nat) (b:Option Blk):aq (za M n b)=aI (aq M) n b:=by
 funext m;unfold za aq aI;by_cases h:n<M.length
 ·simp only[h,aiu,afl,List.getElem?_set];by_cases e:n=m
  ·subst e; simp; cases b <;> rfl
  ·simp[e,show ¬ m=n from λh=>e h.symm]
 ·simp only[h,aim,afk];by_cases e:m=n
  ·subst e;rw[List.getElem?_append_right (by simp; omega)];simp[show m - (M.length+(m - M.length))=0 by omega];cases b <;> rfl
  ·simp only[e,afS];by_cases h1:m<M.length
   ·rw[afC,List.getElem?_append_left h1]
   ·rw[afC,List.getElem?_append_right (by omega),List.getElem?_eq_none (by omega:M.length<=m)];by_cases h2:m - M.length<n - M.length
    ·rw[List.getElem?_append_left (by simpa using h2),List.getElem?_replicate,if_pos h2]
    ·rw[List.getElem?_append_right (by simp; omega)];have h3:¬ m - M.length - (List.replicate (n - M.length) (none:Option Blk)).length=0:=by simp; omega
     cases h4:m - M.length - (List.replicate (n - M.length) (none:Option Blk)).length with
     | zero=>exact absurd h4 h3
     | succ z=>simp
theorem lF:∀(U:Upd) (M:aL),aq (nj M U)=bg (aq M) U/\M.length<=(nj M U).length /\ ∀ n,n ∈ U.map (·.1)->n<(nj M U).length
 | [],M=>⟨rfl,afw _,by simp⟩
 | (m,b)::r,M=>by
  obtain⟨h1,h2,h3⟩:=lF r (za M m b);rw[D9]at h2;refine⟨by rw[nj,h1,vQ]; rfl,by simp only[nj]; omega,λn hn=>?_⟩;simp only[agl,agJ]at hn;rcases hn with rfl | hn
  ·simp only[nj]; omega
  ·exact h3 n hn
theorem ri {f:Lent->Nat} {g:Lent->Option Blk} {n:Nat}:∀(l:List Lent) (La:LK),(∃ q,q ∈ l/\f q=n) -> ∃ q,q ∈ l/\f q=n/\bg La (l.map λq=>(f q,g q)) n=g q
 | [],La,⟨q,hq,_⟩=>by simp at hq
 | a::r,La,⟨q,hq,hqn⟩=>by
  simp only[agl,bg];by_cases h1:∃ q,q ∈ r/\f q=n
  ·obtain⟨q',h2,h3,h4⟩:=ri r (aI La (f a) (g a)) h1;exact⟨q',afE _ h2,h3,h4⟩
  ·have ha:f a=n:=by
    rcases List.mem_cons.1 hq with rfl | hq
    ·exact hqn
    ·exact absurd ⟨q,hq,hqn⟩ h1
   refine⟨a,by simp,ha,?_⟩;rw[cM _ _ n (by rw[ahe];intro hm;obtain⟨q',h2,h3⟩:=List.mem_map.1 hm;exact h1 ⟨q',h2,h3⟩)]
   simp[aI,ha]
theorem G8 {f:Nat->Option Nat}:∀(U:Upd) (n:Nat) (La Lb:LK),n ∈ U.map (·.1)->bg La (U.map λp=>(p.1,p.2.map (Blk.ren f))) n=(bg Lb U n).map (Blk.ren f)
 | [],n,La,Lb,hn=>by simp at hn
 | (m,b)::r,n,La,Lb,hn=>by
  simp only[agl,bg];by_cases h1:n ∈ r.map (·.1)
  ·exact G8 r n _ _ h1
  ·rw[cM r _ n h1,cM _ _ n (by rw[ahe]; exact h1)];have:n=m:=by
    simp only[agl,agJ]at hn;rcases hn with h | h
    ·exact h
    ·exact absurd h h1
   simp[aI,this]
theorem BU:∀(U:Upd) (L L':LK) (n:Nat),L n=L' n->bg L U n=bg L' U n
 | [],L,L',n,h=>h
 | (m,b)::r,L,L',n,h=>BU r _ _ n (by unfold aI;by_cases e:n=m <;> simp[e,h])
theorem SimW.exMono {G:Gh} {w:World} {ρ:Rho} {L:LK} (h:SimW G w ρ L) {ex:Nat->Prop} (hx:∀ b,G.ex b->ex b):SimW { G with ex:=ex } w ρ L:=
 ⟨h.blks,h.inj,λn p hn hp b hb=>(h.own n p hn hp b hb).imp id (hx b),h.size,h.os,h.tape,h.output,λb hb hex hno=>h.old b hb (λe=>hex (hx b e)) hno,h.tab,h.high⟩
theorem LS {l:List Nat} (h:l.Nodup) {i j b:Nat} (hi:l[i]? = some b) (hj:l[j]? = some b):i=j:=by obtain⟨l1,e1⟩:=List.getElem?_eq_some_iff.1 hi;obtain⟨l2,e2⟩:=List.getElem?_eq_some_iff.1 hj;exact(List.getElem_inj h).1 (e1.trans e2.symm)
theorem SimW.hole {G:Gh} {w:World} {ρ:Rho} {L:LK} (h:SimW G w ρ L) {n e m b t sz tt:Nat} {a:RT} {xs:List a.Ty} {hs:List Nat} {p:Place} (hn:L n=some ⟨t,sz,.own tt a xs hs⟩) (hp:ρ n=some (some p)) (hb:p.subs[e]? = some b) (he:e ∉ hs) (hm:ρ m=none) (hsz:a.sz<=64) (hex:G.ex b) :
  SimW G w (aK ρ m (some ⟨b,a.sz,a.sz,[]⟩)) (aI (aI L n (some ⟨t,sz,.own tt a xs (e::hs)⟩)) m (some ⟨tt,1,.cells (a.cells (xs.getD e a.dflt))⟩)) /\
  Keeps (okc G ρ L) w ρ (okc G (aK ρ m (some ⟨b,a.sz,a.sz,[]⟩)) (aI (aI L n (some ⟨t,sz,.own tt a xs (e::hs)⟩)) m (some ⟨tt,1,.cells (a.cells (xs.getD e a.dflt))⟩))) w (aK ρ m (some ⟨b,a.sz,a.sz,[]⟩)):=by
 have hLm:L m=none:=by
  cases e:L m with
  | none=>rfl
  | some b=>obtain⟨q,hq,_⟩:=h.blks m b e; rw[hm]at hq; cases hq
 have hne:m ≠ n:=by intro e; subst e; rw[hLm]at hn; cases hn
 have hbn:hasB p (Body.own tt a xs hs) b:=.inr ⟨e,hb,he⟩;obtain⟨q0,hq0,hb0⟩:=h.blks n _ hn;rw[hp]at hq0; cases hq0;obtain⟨cur,g1,g2,g3,g4,g5,g6,k1,k2,k3,k4⟩:=hb0;have hpm:∀ x,Place.has ⟨b,a.sz,a.sz,[]⟩ x->b=x:=λx hx=>(xO (p:=⟨b,a.sz,a.sz,[]⟩) rfl).1 hx
 have hsub:∀ x,hasB p (Body.own tt a xs (e::hs)) x->hasB p (Body.own tt a xs hs) x/\x ≠ b:=by
  intro x hx;rcases hx with rfl | ⟨i,hi,hni⟩
  ·exact⟨.inl rfl,λe'=>k2 (e' ▸ List.mem_of_getElem? hb)⟩
  ·simp only[Body.holes,agJ,not_or]at hni;exact⟨.inr ⟨i,hi,hni.2⟩,λe'=>hni.1 (LS k3 (e' ▸ hi) hb)⟩
 have hL:∀ k bl,aI (aI L n (some ⟨t,sz,.own tt a xs (e::hs)⟩)) m (some ⟨tt,1,.cells (a.cells (xs.getD e a.dflt))⟩) k=some bl ->
   (k=m/\bl=⟨tt,1,.cells (a.cells (xs.getD e a.dflt))⟩)\/(k ≠ m/\k=n/\bl=⟨t,sz,.own tt a xs (e::hs)⟩)\/(k ≠ m/\k ≠ n/\L k=some bl):=by
  intro k bl hk;unfold aI at hk;by_cases e1:k=m
  ·rw[if_pos e1]at hk; cases hk; exact .inl ⟨e1,rfl⟩
  ·rw[if_neg e1]at hk;by_cases e2:k=n
   ·rw[if_pos e2]at hk; cases hk; exact .inr (.inl ⟨e1,e2,rfl⟩)
   ·rw[if_neg e2]at hk; exact .inr (.inr ⟨e1,e2,hk⟩)
 have hk:Keeps (okc G ρ L) w ρ (okc G (aK ρ m (some ⟨b,a.sz,a.sz,[]⟩)) (aI (aI L n (some ⟨t,sz,.own tt a xs (e::hs)⟩)) m (some ⟨tt,1,.cells (a.cells (xs.getD e a.dflt))⟩))) w (aK ρ m (some ⟨b,a.sz,a.sz,[]⟩)):=by
  refine⟨?_,λx _ ho=>⟨⟨ho.1,λk bl q hk hq hh=>?_⟩,rfl⟩,afw _⟩
  ·intro k q hq;unfold aK;by_cases e:k=m
   ·subst e; rw[hm]at hq; cases hq
   ·simp[e,hq]
  ·rcases hL k bl hk with⟨rfl,rfl⟩ | ⟨k1',rfl,rfl⟩ | ⟨k1',k2',k3'⟩
   ·simp[aK]at hq; subst hq;have:=hpm x hh.has; subst this;exact ho.2 n _ p hn hp hbn
   ·simp only[aK,k1',afS]at hq;rw[hp]at hq; cases hq;exact ho.2 _ _ p hn hp (hsub x hh).1
   ·simp only[aK,k1',afS]at hq;exact ho.2 k bl q k3' hq hh
 refine⟨⟨?_,?_,?_,h.size,h.os,h.tape,h.output,?_,h.tab,?_⟩,hk⟩
 ·intro k bl hkk;rcases hL k bl hkk with⟨rfl,rfl⟩ | ⟨k1',rfl,rfl⟩ | ⟨k1',k2',k3'⟩
  ·obtain⟨y,cy,f1,f2,f3,f4⟩:=h.sub hn rfl hp hb he;have f4':BodyRep (okc G ρ L) w ρ (.cells (a.cells (xs.getD e a.dflt))) cy:=by rw[List.getD_eq_getElem?_getD,f1,af8]; exact f4
   exact⟨some ⟨b,a.sz,a.sz,[]⟩,by simp[aK],cy,f2,by simpa using f3,by simp[Body.size,a.cells_length],afw _,by show a.sz<=maxLen; unfold maxLen; omega,f4'.mono hk,(SubsAt.plain rfl).2 rfl⟩
  ·refine⟨some p,by simp[aK,k1',hp],cur,g1,g2,g3,g4,g5,g6.mono hk,k1,k2,k3,λi x hx=>?_⟩;obtain⟨b',b1,b2,b3⟩:=k4 i x hx;refine⟨b',b1,b2,λhi=>?_⟩;obtain⟨c',d1,d2,d3⟩:=b3 (λhi'=>hi (afE _ hi'));exact⟨c',d1,d2,d3.mono hk⟩
  ·obtain⟨q,hq,hbb⟩:=h.blks k bl k3';exact⟨q,by simp[aK,k1',hq],hbb.of hk λ_ _ _ _=>rfl⟩
 ·have one:∀ k bl q x,k ≠ m->k ≠ n->L k=some bl->ρ k=some (some q)->hasB q bl.c x->x ≠ b:=by intro k bl q x e1 e2 e3 e4 e5 e6;subst e6;exact e2 (h.inj k n bl _ q p e3 hn e4 hp x e5 hbn)
  intro k k' bk bk' q q' hk1 hk2 hq hq' x hb1 hb2;rcases hL k bk hk1 with⟨rfl,rfl⟩ | ⟨u1,rfl,rfl⟩ | ⟨u1,u2,u3⟩ <;> rcases hL k' bk' hk2 with⟨rfl,rfl⟩ | ⟨v1,rfl,rfl⟩ | ⟨v1,v2,v3⟩
  ·rfl
  ·simp[aK]at hq; subst hq;simp only[aK,v1,afS]at hq';rw[hp]at hq'; cases hq';exact absurd (hpm x hb1.has).symm (hsub x hb2).2
  ·simp[aK]at hq; subst hq;simp only[aK,v1,afS]at hq';exact absurd (hpm x hb1.has).symm (one k' bk' q' x v1 v2 v3 hq' hb2)
  ·simp[aK]at hq'; subst hq';simp only[aK,u1,afS]at hq;rw[hp]at hq; cases hq;exact absurd (hpm x hb2.has).symm (hsub x hb1).2
  ·rfl
  ·simp only[aK,u1,afS]at hq;simp only[aK,v1,afS]at hq';rw[hp]at hq; cases hq;exact h.inj _ k' _ bk' p q' hn v3 hp hq' x (hsub x hb1).1 hb2
  ·simp[aK]at hq'; subst hq';simp only[aK,u1,afS]at hq;exact absurd (hpm x hb2.has).symm (one k bk q x u1 u2 u3 hq hb1)
  ·simp only[aK,u1,afS]at hq;simp only[aK,v1,afS]at hq';rw[hp]at hq'; cases hq';exact h.inj k _ bk _ q p u3 hn hq hp x hb1 (hsub x hb2).1
  ·simp only[aK,u1,afS]at hq;simp only[aK,v1,afS]at hq';exact h.inj k k' bk bk' q q' u3 v3 hq hq' x hb1 hb2
 ·intro k q hkb hq x hx;by_cases e1:k=m
  ·subst e1; simp[aK]at hq; subst hq;have:=hpm x hx; subst this;exact .inr hex
  ·simp only[aK,e1,afS]at hq; exact h.own k q hkb hq x hx
 ·intro x hx hex' hno;refine h.old x hx hex' λk q hk1 hq=>hno k q hk1 ?_
  unfold aK;by_cases e1:k=m
  ·subst e1; rw[hm]at hq; cases hq
  ·simp[e1,hq]
 ·intro k q hq x hx;by_cases e1:k=m
  ·subst e1; simp[aK]at hq; subst hq;have:=hpm x hx; subst this;exact h.high n p hp _ hbn.has
  ·simp only[aK,e1,afS]at hq; exact h.high k q hq x hx
theorem SimW.shut {G:Gh} {w:World} {ρ:Rho} {L:LK} (h:SimW G w ρ L) {n e m b t sz tt len cap:Nat} {a:RT} {xs:List a.Ty} {hs:List Nat} {p:Place} {cs:List V} {x':a.Ty} (hn:L n=some ⟨t,sz,.own tt a xs (e::hs)⟩) (hp:ρ n=some (some p)) (hb:p.subs[e]? = some b)
  (hm:L m=some ⟨tt,1,.cells cs⟩) (hpm:ρ m=some (some ⟨b,len,cap,[]⟩)) (hpr:a.parse cs=some (x',[])) :
  SimW G w ρ (aI (aI L n (some ⟨t,sz,.own tt a (xs.set e x') hs⟩)) m none)/\Keeps (okc G ρ L) w ρ (okc G ρ (aI (aI L n (some ⟨t,sz,.own tt a (xs.set e x') hs⟩)) m none)) w ρ:=by
 have hne:m ≠ n:=by intro e; subst e; rw[hm]at hn; cases hn
 obtain⟨q0,hq0,hb0⟩:=h.blks n _ hn;rw[hp]at hq0; cases hq0;obtain⟨cur,g1,g2,g3,g4,g5,g6,k1,k2,k3,k4⟩:=hb0;obtain⟨q1,hq1,hb1⟩:=h.blks m _ hm;rw[hpm]at hq1; cases hq1;obtain⟨cm,f1,f2,f3,f4,f5,f6,-⟩:=hb1;have hbm:hasB (⟨b,len,cap,[]⟩:Place) (Body.cells cs) b:=.inl rfl;have hsub:∀ x,hasB p (Body.own tt a (xs.set e x') hs) x->hasB p (Body.own tt a xs (e::hs)) x\/x=b:=by
  intro x hx;rcases hx with rfl | ⟨i,hi,hni⟩
  ·exact .inl (.inl rfl)
  ·by_cases e1:i=e
   ·subst e1; rw[hb]at hi; cases hi; exact .inr rfl
   ·exact .inl (.inr ⟨i,hi,by simp only[Body.holes,agJ,not_or]; exact⟨e1,hni⟩⟩)
 have hL:∀ k bl,aI (aI L n (some ⟨t,sz,.own tt a (xs.set e x') hs⟩)) m none k=some bl->(k ≠ m/\k=n/\bl=⟨t,sz,.own tt a (xs.set e x') hs⟩)\/(k ≠ m/\k ≠ n/\L k=some bl):=by
  intro k bl hk;unfold aI at hk;by_cases e1:k=m
  ·rw[if_pos e1]at hk; cases hk
  ·rw[if_neg e1]at hk;by_cases e2:k=n
   ·rw[if_pos e2]at hk; cases hk; exact .inl ⟨e1,e2,rfl⟩
   ·rw[if_neg e2]at hk; exact .inr ⟨e1,e2,hk⟩
 have hk:Keeps (okc G ρ L) w ρ (okc G ρ (aI (aI L n (some ⟨t,sz,.own tt a (xs.set e x') hs⟩)) m none)) w ρ:=by
  refine⟨λ_ _ h=>h,λx _ ho=>⟨⟨ho.1,λk bl q hk hq hh=>?_⟩,rfl⟩,afw _⟩;rcases hL k bl hk with⟨u1,rfl,rfl⟩ | ⟨u1,u2,u3⟩
  ·rw[hp]at hq; cases hq;rcases hsub x hh with h1 | rfl
   ·exact ho.2 _ _ p hn hp h1
   ·exact ho.2 m _ _ hm hpm hbm
  ·exact ho.2 k bl q u3 hq hh
 refine⟨⟨?_,?_,h.own,h.size,h.os,h.tape,h.output,h.old,h.tab,h.high⟩,hk⟩
 ·intro k bl hkk;rcases hL k bl hkk with⟨u1,rfl,rfl⟩ | ⟨u1,u2,u3⟩
  ·refine⟨some p,hp,cur,g1,g2,by simpa [Body.size]using g3,g4,g5,?_,by simpa using k1,k2,k3,λi x hx=>?_⟩
   ·intro i z hz;simp only[Body.at,afQ]at hz;obtain⟨z',hz',rfl⟩:=hz;have hi:i<xs.length:=by simpa using (List.getElem?_eq_some_iff.1 hz').1
    obtain⟨v,v1,v2,v3⟩:=g6 i .any (by simp[Body.at,hi]);exact⟨v,v1,v2,.any _⟩
   ·have hi:i<xs.length:=by simpa using (List.getElem?_eq_some_iff.1 hx).1
    obtain⟨b',b1,b2,b3⟩:=k4 i xs[i] (List.getElem?_eq_getElem hi);refine⟨b',b1,b2,λhni=>?_⟩;by_cases e1:i=e
    ·subst e1;rw[hb]at b1; cases b1;rw[List.getElem?_set_self hi]at hx; cases hx;obtain⟨p1,p2⟩:=RT.parse_sound a _ _ _ hpr;rw[afU,a.cells_length]at p1;have f3:len*1=cs.length:=f3;have f2:cap*1<=cm.size:=f2;have f4:len<=cap:=f4;refine⟨cm,f1,by omega,λj z hz=>?_⟩;obtain⟨c,hc,hst⟩:=p2 j z (by rw[afU]; exact hz);obtain⟨v,v1,v2,v3⟩:=f6 j c hc;exact⟨v,v1,v2,(hst _ _ _ _ v3).mono hk⟩
    ·rw[List.getElem?_set_ne (λh=>e1 h.symm),List.getElem?_eq_getElem hi]at hx;cases hx;obtain⟨c',d1,d2,d3⟩:=b3 (by simp only[agJ,not_or]; exact⟨e1,hni⟩);exact⟨c',d1,d2,d3.mono hk⟩
  ·obtain⟨q,hq,hbb⟩:=h.blks k bl u3;exact⟨q,hq,hbb.of hk λ_ _ _ _=>rfl⟩
 ·intro k k' bk bk' q q' hk1 hk2 hq hq' x hb1 hb2;rcases hL k bk hk1 with⟨u1,rfl,rfl⟩ | ⟨u1,u2,u3⟩ <;> rcases hL k' bk' hk2 with⟨v1,rfl,rfl⟩ | ⟨v1,v2,v3⟩
  ·rfl
  ·rw[hp]at hq; cases hq;rcases hsub x hb1 with h1 | rfl
   ·exact h.inj _ k' _ bk' p q' hn v3 hp hq' x h1 hb2
   ·exact absurd (h.inj m k' _ bk' _ q' hm v3 hpm hq' x hbm hb2).symm v1
  ·rw[hp]at hq'; cases hq';rcases hsub x hb2 with h1 | rfl
   ·exact h.inj k _ bk _ q p u3 hn hq hp x hb1 h1
   ·exact absurd (h.inj k m bk _ q _ u3 hm hq hpm x hb1 hbm) u1
  ·exact h.inj k k' bk bk' q q' u3 v3 hq hq' x hb1 hb2
def Fine (nm:Nat) (ls:List Lent):Prop:=(∀(i:Nat) l,ls[i]? = some l->l.m=nm+i) /\ ∀(i j:Nat) l l',ls[i]? = some l->ls[j]? = some l'->l.n=l'.n->l.e=l'.e->i=j
theorem Fine.mem {nm:Nat} {ls:List Lent} (h:Fine nm ls) {l:Lent} (hl:l ∈ ls):nm<=l.m/\l.m<nm+ls.length:=by obtain⟨i,hi⟩:=List.getElem?_of_mem hl;have:=h.1 i l hi;have:=(List.getElem?_eq_some_iff.1 hi).1;omega
theorem Fine.snoc {nm:Nat} {ls:List Lent} (h:Fine nm ls) {n e:Nat} (hd:ls.all (λq=>!(q.n==n) || !decide (e=q.e))=true):Fine nm (ls++[⟨n,e,nm+ls.length⟩]):=by
 have hne:∀ l,l ∈ ls->l.n=n->l.e ≠ e:=by intro l hl hn he;have:=List.all_eq_true.1 hd l hl;simp[hn,he]at this
 constructor
 ·intro i l hi;rw[List.getElem?_append]at hi;split at hi
  ·exact h.1 i l hi
  ·have:i=ls.length:=by have:=(List.getElem?_eq_some_iff.1 hi).1;simp at this; omega
   subst this;simp at hi; subst hi; rfl
 ·intro i j l l' hi hj hn he;rw[List.getElem?_append]at hi hj;split at hi <;> split at hj
  ·exact h.2 i j l l' hi hj hn he
  ·rename_i h1 h2;have hj':ls.length=j:=by have:=(List.getElem?_eq_some_iff.1 hj).1;simp at this; omega
   subst hj';simp at hj; subst hj;exact absurd he (hne l (List.mem_of_getElem? hi) hn)
  ·rename_i h1 h2;have hi':ls.length=i:=by have:=(List.getElem?_eq_some_iff.1 hi).1;simp at this; omega
   subst hi';simp at hi; subst hi;exact absurd he.symm (hne l' (List.mem_of_getElem? hj) hn.symm)
  ·have h1:=(List.getElem?_eq_some_iff.1 hi).1;have h2:=(List.getElem?_eq_some_iff.1 hj).1;simp at h1 h2; omega
def W1 (ls:List Lent) (v v1:V):Prop:=v1=v \/ ∃ l o,l ∈ ls/\v=.opt l.n l.e o/\v1=.ptr l.m o
theorem mB (nm:Nat):∀(vs:List V) (fst:Bool) (acc:List Lent) (k:List V->List Lent->Bool),u9 nm fst vs acc k=true->Fine nm acc ->
    ∃ vs1 ls,k vs1 ls=true/\Fine nm ls/\(∀ l,l ∈ acc->l ∈ ls)/\vs1.length=vs.length/\(∀(i:Nat) v v1,vs[i]? = some v->vs1[i]? = some v1->W1 ls v v1) /\ ∀ l,l ∈ ls->l ∈ acc \/ ∃ o,V.opt l.n l.e o ∈ vs
  | [],fst,acc,k,h,hf=>by
    cases fst <;> exact⟨[],acc,by simpa [u9]using h,hf,λl hl=>hl,rfl,λi v v1 hv=>by simp at hv,λl hl=>.inl hl⟩
  | v::r,fst,acc,k,h,hf=>by
    by_cases ho:∃ n e o,v=.opt n e o
    · obtain⟨n,e,o,rfl⟩:=ho
      unfold u9 at h;split at h
      · obtain⟨vs1,ls,h1,h2,h3,h4,h5,h6⟩:=mB nm r fst [⟨n,e,nm⟩] _ h ⟨λi l hi=>by
            have:i=0:=by have:=(List.getElem?_eq_some_iff.1 hi).1;simp at this; omega
            subst this; simp at hi; subst hi; rfl,λi j l l' hi hj _ _=>by
            have h1:=(List.getElem?_eq_some_iff.1 hi).1;have h2:=(List.getElem?_eq_some_iff.1 hj).1;simp at h1 h2; omega⟩
        have hm:=h3 ⟨n,e,nm⟩ (by simp);refine⟨_,ls,h1,h2,by simp,by simp[h4],λi v v1 hv hv1=>?_,λl hl=>?_⟩
        · cases i with
          | zero=>simp at hv hv1; subst hv; subst hv1; exact .inr ⟨_,o,hm,rfl,rfl⟩
          | succ i=>exact h5 i v v1 (by simpa using hv) (by simpa using hv1)
        · rcases h6 l hl with h7 | ⟨o',h7⟩
          · simp at h7; subst h7; exact .inr ⟨o,by simp⟩
          · exact .inr ⟨o',afE _ h7⟩
      · rename_i l0 acc'
        cases hc:(fst&&l0.n==n)with
        | true=>
          rw[hc,afl]at h;obtain⟨he,h9⟩:=and_true h;clear h;have he:=afp he;have hn:l0.n=n:=by simp at hc; exact hc.2
          subst he; subst hn;obtain⟨vs1,ls,h1,h2,h3,h4,h5,h6⟩:=mB nm r fst (l0::acc') _ h9 hf;refine⟨_,ls,h1,h2,h3,by simp[h4],λi v v1 hv hv1=>?_,λl hl=>?_⟩
          · cases i with
            | zero=>simp at hv hv1; subst hv; subst hv1; exact .inr ⟨l0,o,h3 l0 (by simp),rfl,rfl⟩
            | succ i=>exact h5 i v v1 (by simpa using hv) (by simpa using hv1)
          · rcases h6 l hl with h7 | ⟨o',h7⟩
            · exact .inl h7
            · exact .inr ⟨o',afE _ h7⟩
        | false=>
          rw[hc,afk]at h;obtain⟨hd,h⟩:=and_true h;have hf':=hf.snoc hd;simp only[afW]at hf';obtain⟨vs1,ls,h1,h2,h3,h4,h5,h6⟩:=mB nm r fst _ _ h hf';have hm:=h3 ⟨n,e,nm+(acc'.length+1)⟩ (by simp);refine⟨_,ls,h1,h2,λl hl=>h3 l (agG _ hl),by simp[h4],λi v v1 hv hv1=>?_,λl hl=>?_⟩
          · cases i with
            | zero=>simp at hv hv1; subst hv; subst hv1; exact .inr ⟨_,o,hm,rfl,rfl⟩
            | succ i=>exact h5 i v v1 (by simpa using hv) (by simpa using hv1)
          · rcases h6 l hl with h7 | ⟨o',h7⟩
            · rcases List.mem_append.1 h7 with h8 | h8
              · exact .inl h8
              · simp at h8; subst h8; exact .inr ⟨o,by simp⟩
            · exact .inr ⟨o',afE _ h7⟩
    · have h':u9 nm (fst && !acc.isEmpty) r acc (λvs ls=>k (v::vs) ls)=true:=by
        cases v <;> first
          | exact absurd ⟨_,_,_,rfl⟩ ho
          | simpa [u9]using h
      obtain⟨vs1,ls,h1,h2,h3,h4,h5,h6⟩:=mB nm r _ acc _ h' hf;refine⟨_,ls,h1,h2,h3,by simp[h4],λi u u1 hv hv1=>?_,λl hl=>?_⟩
      · cases i with
        | zero=>simp at hv hv1; subst hv; subst hv1; exact .inl rfl
        | succ i=>exact h5 i u u1 (by simpa using hv) (by simpa using hv1)
      · rcases h6 l hl with h7 | ⟨o',h7⟩
        · exact .inl h7
        · exact .inr ⟨o',afE _ h7⟩
def gR (ls:List Lent) (n:Nat):List Nat:=((ls.filter λl=>l.n==n).map (·.e))
def gF (ls:List Lent) (n:Nat):Prop:=∃ l,l ∈ ls/\l.n=n
structure LentTo (L:LK) (M':aL) (ls:List Lent) (bs:List (Option Blk)) (L':LK):Prop where
 row:∀ n,gF ls n->L' n=aq M' n
 new:∀(i:Nat) l b,ls[i]? = some l->bs[i]? = some b->L' l.m=b
 old:∀ n,¬ gF ls n->(∀ l,l ∈ ls->l.m ≠ n)->L' n=L n
theorem wR:∀(ls:List Lent) (M:aL) (k:aL->List (Option Blk)->Bool),DH M ls k=true -> ∃ M' bs,k M' bs=true/\M'.length=M.length/\bs.length=ls.length/\(∀ b,b ∈ bs->b.isSome=true)/\(∀ n,¬ gF ls n->aq M' n=aq M n) /\
    (∀ n,gF ls n -> ∃ t sz tt a xs hs,aq M n=some ⟨t,sz,.own tt a xs hs⟩/\aq M' n=some ⟨t,sz,.own tt a xs ((gR ls n).reverse++hs)⟩) /\
    ∀(G:Gh) (w:World) (nm:Nat) (ρ:Rho) (L:LK),Fine nm ls->SimW G w ρ L->(∀ l,l ∈ ls->L l.n=aq M l.n/\l.n<nm/\ρ l.m=none /\ ∃ p b,ρ l.n=some (some p)/\p.subs[l.e]? = some b/\G.ex b)->(∀ l,l ∈ ls -> ∀ blk,aq M l.n=some blk->l.e ∉ blk.c.holes) ->
      ∃ ρ' L',SimW G w ρ' L'/\Keeps (okc G ρ L) w ρ (okc G ρ' L') w ρ'/\LentTo L M' ls bs L'/\(∀ n,(∀ l,l ∈ ls->l.m ≠ n)->ρ' n=ρ n) /\ ∀ l,l ∈ ls -> ∃ p b sz,ρ l.n=some (some p)/\p.subs[l.e]? = some b/\ρ' l.m=some (some ⟨b,sz,sz,[]⟩)
  | [],M,k,h=>⟨M,[],h,rfl,rfl,by simp,λ_ _=>rfl,λn ⟨l,hl,_⟩=>by simp at hl,λG w nm ρ L hf hs _ _=>⟨ρ,L,hs,Keeps.refl _ _ _,⟨λn ⟨l,hl,_⟩=>by simp at hl,λi l b hl=>by simp at hl,λ_ _ _=>rfl⟩,λ_ _=>rfl,by simp⟩⟩
  | l::r,M,k,h=>by
    simp only[DH]at h;split at h
    · rename_i t sz tt a xs hs hM
      obtain⟨hsz,h⟩:=and_true h;have hsz:=afp hsz;have hlt:=qP hM;have hMs:∀ n,aq (M.set l.n (some ⟨t,sz,.own tt a xs (l.e::hs)⟩)) n=if n=l.n then some ⟨t,sz,.own tt a xs (l.e::hs)⟩else aq M n:=by
        intro n;unfold aq;rw[List.getElem?_set];by_cases e:n=l.n
        · subst e; simp[hlt]
        · simp[e,show ¬ l.n=n from λh=>e h.symm]
      obtain⟨M',bs,h1,h2,h3,h4,h5,h6,h7⟩:=wR r _ _ h;rw[ahP]at h2;have hrow:∀ n,gF (l::r) n↔n=l.n\/gF r n:=by
        intro n;constructor
        · rintro ⟨q,hq,rfl⟩
          rcases List.mem_cons.1 hq with rfl | hq
          · exact .inl rfl
          · exact .inr ⟨q,hq,rfl⟩
        · rintro (rfl | ⟨q,hq,rfl⟩)
          · exact⟨l,by simp,rfl⟩
          · exact⟨q,afE _ hq,rfl⟩
      refine⟨M',_::bs,h1,h2,by simp[h3],?_,?_,?_,?_⟩
      · intro b hb
        rcases List.mem_cons.1 hb with rfl | hb
        · rfl
        · exact h4 b hb
      · intro n hn
        rw[hrow]at hn;rw[h5 n (λh=>hn (.inr h)),hMs,if_neg (λh=>hn (.inl h))]
      · intro n hn
        rw[hrow]at hn;by_cases e:n=l.n
        · subst e
          refine⟨t,sz,tt,a,xs,hs,hM,?_⟩;have hho:gR (l::r) l.n=l.e::gR r l.n:=by simp[gR]
          rw[hho];by_cases hr:gF r l.n
          · obtain⟨t',sz',tt',a',xs',hs',g1,g2⟩:=h6 l.n hr
            rw[hMs,if_pos rfl]at g1;cases g1;rw[g2]; simp
          · have:gR r l.n=[]:=by unfold gR;rw[List.map_eq_nil_iff,List.filter_eq_nil_iff];intro q hq he;exact hr ⟨q,hq,by simpa using he⟩
            rw[h5 _ hr,hMs,if_pos rfl,this]; simp
        · have hr:gF r n:=by
            rcases hn with h | h
            · exact absurd h e
            · exact h
          obtain⟨t',sz',tt',a',xs',hs',g1,g2⟩:=h6 n hr;rw[hMs,if_neg e]at g1;have hho:gR (l::r) n=gR r n:=by simp[gR,show ¬ l.n=n from λh=>e h.symm]
          exact⟨t',sz',tt',a',xs',hs',g1,by rw[hho]; exact g2⟩
      · intro G w nm ρ L hf hsim hall hno
        obtain⟨hL,hlnm,hm,p,b,hp,hb,hex⟩:=hall l (by simp);rw[hM]at hL;have hmne:∀ q,q ∈ r->q.m ≠ l.m:=by intro q hq e;obtain⟨i,hi⟩:=List.getElem?_of_mem hq;have h1:=hf.1 (i+1) q (by simpa using hi);have h2:=hf.1 0 l rfl;omega
        have hlm:nm<=l.m:=(hf.mem (l:=l) (by simp)).1;obtain⟨s1,s2⟩:=hsim.hole hL hp hb (hno l (by simp) _ hM) hm hsz hex;have hrn:∀ q,q ∈ r->q.n ≠ l.m:=λq hq e=>by have:=(hall q (afE _ hq)).2.1; omega
        obtain⟨ρ',L',g1,g2,g3,g4,g5⟩:=h7 G w (nm+1) _ _ ⟨λi q hq=>by have:=hf.1 (i+1) q (by simpa using hq); omega,λi j q q' hq hq' e1 e2=>by
            have:=hf.2 (i+1) (j+1) q q' (by simpa using hq) (by simpa using hq') e1 e2; omega⟩ s1 (λq hq=>by
            obtain⟨u1,u2,u3,p',b',u4,u5,u6⟩:=hall q (afE _ hq);refine⟨?_,by omega,by simp[aK,hmne q hq,u3],p',b',by simp[aK,hrn q hq,u4],u5,u6⟩;rw[hMs];unfold aI;rw[if_neg (hrn q hq)];by_cases e:q.n=l.n
            · rw[if_pos e,if_pos e]
            · rw[if_neg e,if_neg e]; exact u1) (λq hq blk hb'=>by
            rw[hMs]at hb';by_cases e:q.n=l.n
            · rw[if_pos e]at hb'; cases hb'
              have hnh:=hno q (afE _ hq) _ (by rw[e]; exact hM);simp only[Body.holes,agJ,not_or]at hnh ⊢;refine⟨λe2=>?_,hnh⟩;obtain⟨i,hi⟩:=List.getElem?_of_mem hq;have:=hf.2 0 (i+1) l q rfl (by simpa using hi) e.symm e2.symm;omega
            · rw[if_neg e]at hb'
              exact hno q (afE _ hq) blk hb')
        refine⟨ρ',L',g1,s2.trans g2,⟨?_,?_,?_⟩,?_,?_⟩
        · intro n hn
          by_cases hr:gF r n
          · exact g3.row n hr
          · have e:n=l.n:=by
              rcases (hrow n).1 hn with h | h
              · exact h
              · exact absurd h hr
            subst e;rw[g3.old _ hr (λq hq e=>by have h1:=(hf.mem (l:=q) (afE _ hq)).1; omega),h5 _ hr,hMs,if_pos rfl]
            have:l.n ≠ l.m:=by omega
            simp[aI,this]
        · intro i q b' hq hb'
          cases i with
          | zero=>
            simp at hq hb'; subst hq; subst hb';rw[g3.old _ (λ⟨q,hq,e⟩=>hrn q hq e) (λq hq e=>hmne q hq e)];simp[aI]
          | succ i=>exact g3.new i q b' (by simpa using hq) (by simpa using hb')
        · intro n hn hm'
          have hnl:n ≠ l.n:=λe=>hn ((hrow n).2 (.inl e))
          have hnm:n ≠ l.m:=λe=>hm' l (by simp) e.symm
          rw[g3.old n (λh=>hn ((hrow n).2 (.inr h))) (λq hq=>hm' q (afE _ hq))];simp[aI,hnm,hnl]
        · intro n hn
          rw[g4 n (λq hq=>hn q (afE _ hq))];have hnm:n ≠ l.m:=λe=>hn l (by simp) e.symm
          simp[aK,hnm]
        · intro q hq
          rcases List.mem_cons.1 hq with rfl | hq
          · exact⟨p,b,a.sz,hp,hb,by rw[g4 _ (λq' hq' e=>hmne q' hq' e)]; simp[aK]⟩
          · obtain⟨p',b',sz',u1,u2,u3⟩:=g5 q hq
            refine⟨p',b',sz',?_,u2,u3⟩;simpa [aK,hrn q hq]using u1
    · cases h
theorem xm (N:aL):∀(R:List Lent) (M:aL) (k:aL->Bool),Ej M N R k=true -> ∃ M2,k M2=true/\(∀ n,¬ gF R n->aq M2 n=aq M n) /\
  ∀(G:Gh) (w:World) (ρ:Rho) (L:LK),SimW G w ρ L->(∀ l,l ∈ R->L l.n=aq M l.n/\L l.m=aq N l.m /\ ∃ p b sz,ρ l.n=some (some p)/\p.subs[l.e]? = some b/\ρ l.m=some (some ⟨b,sz,sz,[]⟩)) ->
   (∀(i j:Nat) l l',R[i]? = some l->R[j]? = some l'->l.m=l'.m->i=j)->(∀ l l',l ∈ R->l' ∈ R->l.m ≠ l'.n)->(∀ n,gF R n -> ∃ blk,aq M n=some blk/\blk.c.holes=gR R n) ->
   ∃ L',SimW G w ρ L'/\Keeps (okc G ρ L) w ρ (okc G ρ L') w ρ/\(∀ n,gF R n->L' n=aq M2 n)/\(∀ l,l ∈ R->L' l.m=none) /\ ∀ n,¬ gF R n->(∀ l,l ∈ R->l.m ≠ n)->L' n=L n
 | [],M,k,h=>⟨M,h,λ_ _=>rfl,λG w ρ L hs _ _ _ _=>⟨L,hs,Keeps.refl _ _ _,λn ⟨l,hl,_⟩=>by simp at hl,λl hl=>by simp at hl,λ_ _ _=>rfl⟩⟩
 | l::r,M,k,h=>by
  simp only[Ej]at h;split at h
  ·rename_i t sz tt a xs hs tt' cs hM hN;obtain⟨ht,h0⟩:=and_true h;obtain⟨h1,h2⟩:=and_true h0;clear h h0;obtain rfl:tt'=tt:=by simpa using ht
   split at h2
   ·rename_i x' hpr;have hlt:=qP hM;have hMs:∀ n,aq (M.set l.n (some ⟨t,sz,.own tt' a (xs.set l.e x') hs.tail⟩)) n=if n=l.n then some ⟨t,sz,.own tt' a (xs.set l.e x') hs.tail⟩else aq M n:=by
     intro n;unfold aq;rw[List.getElem?_set];by_cases e:n=l.n
     ·subst e; simp[hlt]
     ·simp[e,show ¬ l.n=n from λh=>e h.symm]
    obtain⟨M2,g1,g2,g3⟩:=xm N r _ _ h2;have hrow:∀ n,gF (l::r) n↔n=l.n\/gF r n:=by
     intro n;constructor
     ·rintro ⟨q,hq,rfl⟩;rcases List.mem_cons.1 hq with rfl | hq
      ·exact .inl rfl
      ·exact .inr ⟨q,hq,rfl⟩
     ·rintro (rfl | ⟨q,hq,rfl⟩)
      ·exact⟨l,by simp,rfl⟩
      ·exact⟨q,afE _ hq,rfl⟩
    refine⟨M2,g1,λn hn=>?_,λG w ρ L hsim hall hmm hmn hho=>?_⟩
    ·rw[hrow]at hn;rw[g2 n (λh=>hn (.inr h)),hMs,if_neg (λh=>hn (.inl h))]
    ·obtain⟨hL,hLm,p,b,sz',hp,hb,hpm⟩:=hall l (by simp);rw[hM]at hL;rw[hN]at hLm;have hhs:hs=l.e::gR r l.n:=by obtain⟨blk,u1,u2⟩:=hho l.n ⟨l,by simp,rfl⟩;rw[hM]at u1; cases u1;rw[show hs=Body.holes (.own tt' a xs hs) from rfl,u2]; simp[gR]
     subst hhs;obtain⟨s1,s2⟩:=hsim.shut hL hp hb hLm hpm hpr;have hmne:∀ q,q ∈ r->q.m ≠ l.m:=by intro q hq e;obtain⟨i,hi⟩:=List.getElem?_of_mem hq;have:=hmm (i+1) 0 q l (by simpa using hi) rfl e;omega
     have hrn:∀ q,q ∈ r->q.n ≠ l.m:=λq hq e=>hmn l q (by simp) (afE _ hq) e.symm
     have hmr:∀ q,q ∈ r->q.m ≠ l.n:=λq hq=>hmn q l (afE _ hq) (by simp)
     have hll:l.n ≠ l.m:=λe=>hmn l l (by simp) (by simp) e.symm
     obtain⟨L',k1,k2,k3,k4,k5⟩:=g3 G w ρ _ s1 (λq hq=>by
       obtain⟨u1,u2,u3⟩:=hall q (afE _ hq);refine⟨?_,?_,u3⟩
       ·rw[hMs];unfold aI;rw[if_neg (hrn q hq)];by_cases e:q.n=l.n
        ·rw[if_pos e,if_pos e]; rfl
        ·rw[if_neg e,if_neg e]; exact u1
       ·unfold aI;rw[if_neg (hmne q hq),if_neg (hmr q hq)]; exact u2)
      (λi j q q' hq hq' e=>by have:=hmm (i+1) (j+1) q q' (by simpa using hq) (by simpa using hq') e; omega)
      (λq q' hq hq'=>hmn q q' (afE _ hq) (afE _ hq'))
      (λn hn=>by
       rw[hMs];by_cases e:n=l.n
       ·subst e; exact⟨_,if_pos rfl,rfl⟩
       ·rw[if_neg e];obtain⟨blk,u1,u2⟩:=hho n ((hrow n).2 (.inr hn));exact⟨blk,u1,by rw[u2]; simp[gR,show ¬ l.n=n from λh=>e h.symm]⟩)
     refine⟨L',k1,s2.trans k2,?_,?_,?_⟩
     ·intro n hn;by_cases hr:gF r n
      ·exact k3 n hr
      ·have e:n=l.n:=by
        rcases (hrow n).1 hn with h | h
        ·exact h
        ·exact absurd h hr
       subst e;rw[k5 _ hr (λq hq=>hmr q hq),g2 _ hr,hMs,if_pos rfl];simp[aI,hll]
     ·intro q hq;rcases List.mem_cons.1 hq with rfl | hq
      ·rw[k5 _ (λ⟨q',hq',e⟩=>hrn q' hq' e) (λq' hq'=>hmne q' hq')];simp[aI]
      ·exact k4 q hq
     ·intro n hn hm';have hnl:n ≠ l.n:=λe=>hn ((hrow n).2 (.inl e))
      have hnm:n ≠ l.m:=λe=>hm' l (by simp) e.symm
      rw[k5 n (λh=>hn ((hrow n).2 (.inr h))) (λq hq=>hm' q (afE _ hq))];simp[aI,hnm,hnl]
   ·cases h2
  ·cases h
theorem w8 {ls:List Lent} {n:Nat}:Gk ls n=true ↔ ∃ l,l ∈ ls/\l.m=n:=by unfold Gk;rw[List.any_eq_true];simp
theorem LU {ls:List Lent} {n m:Nat} (h:sU ls n=some m):m=n /\ ∀ l,l ∈ ls->l.m ≠ n:=by
 unfold sU at h;cases hm:Gk ls n with
 | true=>rw[hm]at h; cases h
 | false=>
  rw[hm]at h; cases h;exact⟨rfl,λl hl e=>by rw[w8.2 ⟨l,hl,e⟩]at hm; cases hm⟩
theorem E0 {cx:Cx} (hO:OS cx) {base:Nat} {M:aL} {g:Nat} {vs:List V} {k:KOp} (hmd:nZ cx g=0) (h:NO cx M g vs k=true) :
    ∃ x U T,k x U T=true /\ ∀(G:Gh) (w:World) (ρ:Rho) (L:LK) (us:List Value),G.base=base->(∀ b,¬ G.ex b)->base<=M.length->SimW G w ρ L->RepL (okc G ρ L) w ρ vs us->(∀ n,n ∈ T->L n=aq M n)->(∀ n b,(n,b) ∈ U->M.length<=n->ρ n=none/\base<=n) ->
      EM cx.P g us.toArray w λv w'=>∃ ρ',SimW G w' ρ' (bg L U)/\Rep (okc G ρ' (bg L U)) w' ρ' x v/\Keeps (okc G ρ L) w ρ (okc G ρ' (bg L U)) w' ρ'/\(∀ n,ρ' n ≠ ρ n->n ∈ U.map (·.1)):=by
  unfold NO at h;obtain⟨vs1,ls,h1,hf,_,hl1,hone,hfrom⟩:=mB M.length vs true [] _ h ⟨λi l hi=>by simp at hi,λi j l l' hi=>by simp at hi⟩;clear h;obtain⟨hnoh,h2⟩:=and_true h1;clear h1;have hnoh:∀ l,l ∈ ls -> ∃ blk,aq M l.n=some blk/\blk.c.holes=[]:=by
    intro l hl;have:=List.all_eq_true.1 hnoh l hl;split at this
    · rename_i b hb; exact⟨b,hb,by simpa using this⟩
    · cases this
  obtain⟨M1,bs,h3,hM1len,hbs,hbsome,hM1o,hM1r,hhole⟩:=wR ls M _ h2;obtain⟨x,U,T,h4,-,hg⟩:=oC hO (base:=base) h3;obtain⟨hUn,h5⟩:=and_true h4;obtain⟨M2,h6,-,hshut⟩:=xm _ _ _ _ h5;have hUn:∀ l,l ∈ ls->l.n ∉ U.map (·.1):=by intro l hl;have:=List.all_eq_true.1 hUn l hl;simpa using this
  clear h2 h3 h4 h5;refine⟨_,_,_,h6,λG w ρ L us hG hex hb hsim hr hT hU=>?_⟩;have hrowlt:∀ l,l ∈ ls->l.n<M.length:=λl hl=>by obtain⟨blk,h1,_⟩:=hnoh l hl; exact qP h1
  have hmge:∀ l,l ∈ ls->M.length<=l.m/\l.m<M.length+ls.length:=λl hl=>hf.mem hl
  have hmfresh:∀ l,l ∈ ls->ρ l.m=none/\base<=l.m:=λl hl=>hU l.m none (by refine agG _ (agk _ ?_);exact List.mem_map.2 ⟨l,hl,rfl⟩) (hmge l hl).1
  have hLrow:∀ l,l ∈ ls->L l.n=aq M l.n:=λl hl=>hT l.n (agG _ (List.mem_map.2 ⟨l,hl,rfl⟩))
  have hplace:∀ l,l ∈ ls -> ∃ p b,ρ l.n=some (some p)/\p.subs[l.e]? = some b:=by
    intro l hl;rcases hfrom l hl with h | ⟨o,ho⟩
    · simp at h
    · obtain⟨i,hi⟩:=List.getElem?_of_mem ho
      have hlt:i<us.length:=by rw[<- hr.1]; exact(List.getElem?_eq_some_iff.1 hi).1
      obtain⟨p,b,hp,hb,_⟩:=(hr.2 i _ us[i] hi (List.getElem?_eq_getElem hlt)).opt_inv;exact⟨p,b,hp,hb⟩
  have s0:SimW { G with ex:=λb=>∃ l,l ∈ ls /\ ∃ p,ρ l.n=some (some p)/\p.subs[l.e]? = some b } w ρ L:=hsim.exMono λb h=>absurd h (hex b)
  obtain⟨ρ1,L1,s1,k1,lt,hρ1,hρm⟩:=hhole _ w M.length ρ L hf s0 (λl hl=>by
      obtain⟨p,b,hp,hb⟩:=hplace l hl;exact⟨hLrow l hl,hrowlt l hl,(hmfresh l hl).1,p,b,hp,hb,l,hl,p,hp,hb⟩) (λl hl blk hblk=>by
      obtain⟨blk',h1,h2⟩:=hnoh l hl;rw[hblk]at h1; cases h1; rw[h2]; simp)
  have hargs:RepL (okc G ρ1 L1) w ρ1 vs1 us:=by
    refine⟨by rw[hl1]; exact hr.1,λi c u hc hu=>?_⟩;have hi:i<vs.length:=by rw[<- hl1]; exact(List.getElem?_eq_some_iff.1 hc).1
    have hv:=List.getElem?_eq_getElem hi;rcases hone i vs[i] c hv hc with rfl | ⟨l,o,hl,e1,rfl⟩
    · exact(hr.2 i _ u hv hu).mono k1
    · have:=hr.2 i _ u hv hu
      rw[e1]at this;obtain⟨p,b,hp,hb,rfl⟩:=this.opt_inv;obtain⟨p',b',sz',g1,g2,g3⟩:=hρm l hl;rw[hp]at g1; cases g1;rw[hb]at g2; cases g2;exact .ptr l.m o _ g3
  have hlookM1:∀ n,n<M.length->aq (M1++bs) n=aq M1 n:=by intro n hn;unfold aq;rw[List.getElem?_append_left (by omega)]
  have hlookbs:∀(i:Nat) l,ls[i]? = some l -> ∃ b,bs[i]? = some (some b)/\aq (M1++bs) l.m=some b:=by
    intro i l hl;have hi:i<bs.length:=by rw[hbs]; exact(List.getElem?_eq_some_iff.1 hl).1
    have hb:=List.getElem?_eq_getElem hi;obtain⟨b,hbb⟩:=Option.isSome_iff_exists.1 (hbsome bs[i] (agv hi));rw[hbb]at hb;refine⟨b,hb,?_⟩;unfold aq;rw[hf.1 i l hl,List.getElem?_append_right (by omega),hM1len,afZ,hb]
  have hL1m:∀ l,l ∈ ls->L1 l.m=aq (M1++bs) l.m:=by intro l hl;obtain⟨i,hi⟩:=List.getElem?_of_mem hl;obtain⟨b,h1,h2⟩:=hlookbs i l hi;rw[lt.new i l (some b) hi h1,h2]
  have hL1r:∀ l,l ∈ ls->L1 l.n=aq M1 l.n:=λl hl=>lt.row l.n ⟨l,hl,rfl⟩
  have hcall:=hg { G with ex:=λb=>∃ l,l ∈ ls /\ ∃ p,ρ l.n=some (some p)/\p.subs[l.e]? = some b } w ρ1 L1 us hG (by simp; omega) s1 hargs (λn hn=>by
      by_cases h1:gF ls n
      · obtain⟨l,hl,rfl⟩:=h1
        rw[hL1r l hl,hlookM1 _ (hrowlt l hl)]
      · by_cases h2:∃ l,l ∈ ls/\l.m=n
        · obtain⟨l,hl,rfl⟩:=h2
          exact hL1m l hl
        · have h2':∀ l,l ∈ ls->l.m ≠ n:=λl hl e=>h2 ⟨l,hl,e⟩
          rw[lt.old n h1 h2',hT n (agk _ (List.mem_filter.2 ⟨hn,by
            cases hm:Gk ls n with
            | false=>rfl
            | true=>exact absurd (w8.1 hm) h2⟩))]
          by_cases h3:n<M.length
          · rw[hlookM1 n h3,hM1o n h1]
          · have e1:aq M n=none:=by unfold aq; rw[List.getElem?_eq_none (by omega)]
            have e2:aq (M1++bs) n=none:=by
              unfold aq;rw[List.getElem?_append_right (by omega)];by_cases h4:n - M1.length<bs.length
              · exfalso
                have hi:n - M.length<ls.length:=by omega
                have hl:=List.getElem?_eq_getElem hi;have:=hf.1 _ _ hl;exact h2' _ (agv hi) (by omega)
              · rw[List.getElem?_eq_none (by omega)]
            rw[e1,e2]) (λn b hn hlen=>by
      have hlen':M.length+ls.length<=n:=by simp[hM1len,hbs]at hlen; exact hlen
      have:=hU n (b.map (Blk.ren (sU ls))) (agG _ (agG _ (List.mem_map.2 ⟨(n,b),hn,rfl⟩))) (by omega);exact⟨by rw[hρ1 n (λl hl e=>by have:=(hmge l hl).2; omega)]; exact this.1,this.2⟩)
  intro o act N Q hN;refine hcall o act N Q λv w' hR=>hN v w' ?_
  obtain⟨ρ',s2,r2,k2,hρ',hnewB,hsame⟩:=hR;have hsame:=hsame hmd;have hkeep12:Keeps (okc G ρ L) w ρ (okc G ρ' (bg L1 U)) w' ρ':=k1.trans k2;have hρrow:∀ l,l ∈ ls->ρ' l.n=ρ l.n:=by intro l hl;obtain⟨p,b,hp,hb⟩:=hplace l hl;rw[hp,hkeep12.rho _ _ hp]
  have hrev:∀ n,gF ls.reverse n↔gF ls n:=by intro n; unfold gF; simp
  obtain⟨L3,s3,k3,hL3r,hL3m,hL3o⟩:=hshut _ w' ρ' (bg L1 U) s2 (λl hl=>by
      have hl:l ∈ ls:=by simpa using hl
      obtain⟨p,b,sz',g1,g2,g3⟩:=hρm l hl;refine⟨?_,?_,p,b,sz',by rw[hρrow l hl]; exact g1,g2,k2.rho _ _ g3⟩
      · rw[cM _ _ _ (hUn l hl),hL1r l hl]
      · rw[(lF U (M1++bs)).1]
        exact BU U _ _ _ (hL1m l hl)) (λi j l l' hi hj e=>by
      have h1:=(List.getElem?_eq_some_iff.1 hi).1;have h2:=(List.getElem?_eq_some_iff.1 hj).1;simp at h1 h2;rw[List.getElem?_reverse h1]at hi;rw[List.getElem?_reverse h2]at hj;have:=hf.1 _ _ hi;have:=hf.1 _ _ hj;omega) (λl l' hl hl' e=>by
      have hl:l ∈ ls:=by simpa using hl
      have hl':l' ∈ ls:=by simpa using hl'
      have:=(hmge l hl).1;have:=hrowlt l' hl';omega) (λn hn=>by
      rw[hrev]at hn;obtain⟨t,sz,tt,a,xs,hs,e1,e2⟩:=hM1r n hn;obtain⟨l,hl,rfl⟩:=hn;obtain⟨blk,f1,f2⟩:=hnoh l hl;rw[e1]at f1; cases f1;have f2:hs=[]:=f2;subst f2;refine⟨_,e2,?_⟩;simp[Body.holes,gR,List.filter_reverse,List.map_reverse])
  have hmn:∀ l l',l ∈ ls->l' ∈ ls->l.m ≠ l'.n:=λl l' hl hl' e=>by have:=(hmge l hl).1;have:=hrowlt l' hl';omega
  generalize hUall:U.map (λp=>(p.1,p.2.map (Blk.ren (sU ls))))++(ls.map λl=>(l.m,(none:Option Blk)))++(ls.map λl=>(l.n,(aq M2 l.n).map (Blk.ren (sU ls))))=Uall at h6 hU ⊢;have hL4r:∀ n,gF ls n->bg L Uall n=(L3 n).map (Blk.ren (sU ls)):=by intro n hn;rw[<- hUall,fW];obtain⟨q,h1,rfl,h3⟩:=ri (f:=λl=>l.n) (g:=λl=>(aq M2 l.n).map (Blk.ren (sU ls))) ls (bg L (U.map (λp=>(p.1,p.2.map (Blk.ren (sU ls))))++(ls.map λl=>(l.m,(none:Option Blk))))) (by obtain⟨l,hl,e⟩:=hn; exact⟨l,hl,e⟩);rw[h3,hL3r _ ((hrev _).2 hn)]
  have hnotrow:∀ n,¬ gF ls n->n ∉ ((ls.map λl=>(l.n,(aq M2 l.n).map (Blk.ren (sU ls)))).map (·.1)):=by intro n hn hm;rw[ahe]at hm;obtain⟨l,hl,e⟩:=List.mem_map.1 hm;exact hn ⟨l,hl,e⟩
  have hL4m:∀ l,l ∈ ls->bg L Uall l.m=none:=by intro l hl;rw[<- hUall,fW,cM _ _ _ (hnotrow _ λ⟨l',hl',e⟩=>hmn l l' hl hl' e.symm),fW];obtain⟨q,h1,h2,h3⟩:=ri (f:=λl=>l.m) (g:=λ_=>(none:Option Blk)) (n:=l.m) ls (bg L (U.map (λp=>(p.1,p.2.map (Blk.ren (sU ls)))))) ⟨l,hl,rfl⟩;exact h3
  have hnotm:∀ n,(∀ l,l ∈ ls->l.m ≠ n)->n ∉ ((ls.map λl=>(l.m,(none:Option Blk))).map (·.1)):=by intro n hn hm;rw[ahe]at hm;obtain⟨l,hl,e⟩:=List.mem_map.1 hm;exact hn l hl e
  have hL4o:∀ n,¬ gF ls n->(∀ l,l ∈ ls->l.m ≠ n)->bg L Uall n=if n ∈ U.map (·.1)then(L3 n).map (Blk.ren (sU ls))else L n:=by
    intro n h1 h2;rw[<- hUall,fW,cM _ _ _ (hnotrow n h1),fW,cM _ _ _ (hnotm n h2)];by_cases hu:n ∈ U.map (·.1)
    · rw[if_pos hu,G8 U n L L1 hu,hL3o n (λh=>h1 ((hrev n).1 h)) (λl hl=>h2 l (by simpa using hl))]
    · rw[if_neg hu,cM _ _ _ (by rw[ahe]; exact hu)]
  have hL3same:∀ n,¬ gF ls n->(∀ l,l ∈ ls->l.m ≠ n)->n ∉ U.map (·.1)->L3 n=L n:=by intro n h1 h2 hu;rw[hL3o n (λh=>h1 ((hrev n).1 h)) (λl hl=>h2 l (by simpa using hl)),cM _ _ _ hu,lt.old n h1 h2]
  have hcls:∀ n bl,bg L Uall n=some bl->(∀ l,l ∈ ls->l.m ≠ n)/\((∃ b3,L3 n=some b3/\bl=b3.ren (sU ls))\/(L3 n=some bl/\L n=some bl/\L1 n=some bl/\n ∉ U.map (·.1))):=by
    intro n bl hn;by_cases h2:∃ l,l ∈ ls/\l.m=n
    · obtain⟨l,hl,rfl⟩:=h2
      rw[hL4m l hl]at hn; cases hn
    · have h2':∀ l,l ∈ ls->l.m ≠ n:=λl hl e=>h2 ⟨l,hl,e⟩
      refine⟨h2',?_⟩;by_cases h1:gF ls n
      · rw[hL4r n h1]at hn
        obtain⟨b3,e1,e2⟩:=Option.map_eq_some_iff.1 hn;exact .inl ⟨b3,e1,e2.symm⟩
      · rw[hL4o n h1 h2']at hn
        by_cases hu:n ∈ U.map (·.1)
        · rw[if_pos hu]at hn
          obtain⟨b3,e1,e2⟩:=Option.map_eq_some_iff.1 hn;exact .inl ⟨b3,e1,e2.symm⟩
        · rw[if_neg hu]at hn
          exact .inr ⟨by rw[hL3same n h1 h2' hu]; exact hn,hn,by rw[lt.old n h1 h2']; exact hn,hu⟩
  have hhole3:∀ n bl,bg L Uall n=some bl -> ∃ b3,L3 n=some b3/\bl.c.holes=b3.c.holes:=by
    intro n bl hn;rcases (hcls n bl hn).2 with⟨b3,e1,rfl⟩ | ⟨e1,-,-,-⟩
    · exact⟨b3,e1,Body.ren_holes _ _⟩
    · exact⟨bl,e1,rfl⟩
  have hhasB:∀(p:Place) (c c':Body) x,c.holes=c'.holes->hasB p c x->hasB p c' x:=by
    intro p c c' x e h;rcases h with h | ⟨i,h1,h2⟩
    · exact .inl h
    · exact .inr ⟨i,h1,by rw[<- e]; exact h2⟩
  generalize hρ4:(λn=>cond (Gk ls n) none (ρ' n):Rho)=ρ4;have hρ4m:∀ l,l ∈ ls->ρ4 l.m=none:=by intro l hl;rw[<- hρ4];simp only;rw[w8.2 ⟨l,hl,rfl⟩]; rfl
  have hρ4o:∀ n,(∀ l,l ∈ ls->l.m ≠ n)->ρ4 n=ρ' n:=by
    intro n hn;rw[<- hρ4];simp only;cases hm:Gk ls n with
    | false=>rfl
    | true=>obtain⟨l,hl,e⟩:=w8.1 hm; exact absurd e (hn l hl)
  have hρ4s:∀ n q,ρ4 n=some q->ρ' n=some q /\ ∀ l,l ∈ ls->l.m ≠ n:=by
    intro n q hq;have:∀ l,l ∈ ls->l.m ≠ n:=λl hl e=>by subst e; rw[hρ4m l hl]at hq; cases hq
    exact⟨by rw[<- hρ4o n this]; exact hq,this⟩
  have hoff:∀ n m q,sU ls n=some m->ρ' n=some q->ρ4 m=some q:=by intro n m q hm hq;obtain⟨rfl,h⟩:=LU hm;rw[hρ4o _ h]; exact hq
  have hk13:Keeps (okc G ρ L) w ρ (okc G ρ' L3) w' ρ':=hkeep12.trans k3;have hok34:∀ b,okc G ρ' L3 b->okc G ρ4 (bg L Uall) b:=by intro b ho;refine⟨ho.1,λn bl p hn hp hh=>?_⟩;obtain⟨b3,e1,e2⟩:=hhole3 n bl hn;exact ho.2 n b3 p e1 (hρ4s n _ hp).1 (hhasB p _ _ b e2 hh)
  have hk34:Keeps (okc G ρ' L3) w' ρ' (okc G ρ4 (bg L Uall)) w' ρ':=⟨λ_ _ h=>h,λb _ ho=>⟨hok34 b ho,rfl⟩,afw _⟩
  have hkf:Keeps (okc G ρ L) w ρ (okc G ρ4 (bg L Uall)) w' ρ4:=by
    refine⟨λn q hq=>?_,λb hb ho=>?_,hk13.size⟩
    · rw[hρ4o n (λl hl e=>by subst e; rw[(hmfresh l hl).1]at hq; cases hq)]
      exact hk13.rho n q hq
    · obtain⟨g1,g2⟩:=hk13.blk b hb ho
      exact⟨hok34 b g1,g2⟩
  refine⟨ρ4,⟨?_,?_,?_,s3.size,s3.os,s3.tape,s3.output,?_,s3.tab,?_⟩,?_,hkf,?_⟩
  · intro n bl hn
    obtain⟨hnm,h⟩:=hcls n bl hn;rcases h with⟨b3,e1,rfl⟩ | ⟨e1,e2,e3,hu⟩
    · obtain⟨q,hq,hbb⟩:=s3.blks n b3 e1
      exact⟨q,by rw[hρ4o n hnm]; exact hq,BlkAt.ren hoff (hbb.of hk34 λ_ _ _ _=>rfl)⟩
    · obtain⟨q,hq,hbb⟩:=hsim.blks n bl e2
      refine⟨q,hkf.rho n q hq,hbb.of hkf λp b hp hh=>hsame n bl p b hu e3 ?_ hh⟩;rw[hρ1 n hnm,hq,hp]
  · intro n m bn bm p q hn hm hp hq b hb1 hb2
    obtain⟨b3,e1,e2⟩:=hhole3 n bn hn;obtain⟨c3,f1,f2⟩:=hhole3 m bm hm;exact s3.inj n m b3 c3 p q e1 f1 (hρ4s n _ hp).1 (hρ4s m _ hq).1 b (hhasB p _ _ b e2 hb1) (hhasB q _ _ b f2 hb2)
  · intro n p hn hp b hb
    obtain⟨g1,g2⟩:=hρ4s n _ hp;by_cases e:ρ' n=ρ1 n
    · rw[e,hρ1 n g2]at g1
      exact hsim.own n p hn g1 b hb
    · exact .inl (afG hsim.size (hnewB n p b e g1 hb))
  · intro b hb' hex' hno
    refine s3.old b hb' (λ⟨l,hl,p,hp,hpb⟩=>?_) λn p hn hp=>?_
    · by_cases hlt:l.n<G.base
      · refine hno l.n p hlt ?_ (.inr (List.mem_of_getElem? hpb))
        rw[hρ4o l.n (λl' hl'=>hmn l' l hl' hl),hρrow l hl,hp]
      · rcases hsim.own l.n p (by omega) hp b (.inr (List.mem_of_getElem? hpb))with h | h
        · omega
        · exact hex b h
    · have hn:n<G.base:=hn
      refine hno n p hn ?_;rw[hρ4o n (λl hl e=>by have:=(hmge l hl).1; omega)]; exact hp
  · intro n p hp
    exact s3.high n p (hρ4s n _ hp).1
  · have hx3:=(r2.mono k3).mono hk34
    have gen:Rep (okc G ρ4 (bg L Uall)) w' ρ4 (x.ren (sU ls)) v:=nC hoff hx3;unfold SB;split
    · rename_i n o
      split
      · rename_i l hfd
        have hl:=List.mem_of_find?_eq_some hfd;have hnm:l.m=n:=by simpa using List.find?_some hfd
        subst hnm;obtain⟨q,hq,rfl⟩:=hx3.ptr_inv;obtain⟨p,b,sz',g1,g2,g3⟩:=hρm l hl;rw[k2.rho _ _ g3]at hq; cases hq;exact .opt l.n l.e o b p (by rw[hρ4o l.n (λl' hl'=>hmn l' l hl' hl),hρrow l hl]; exact g1) g2
      · rename_i hfd
        have hnm:∀ l,l ∈ ls->l.m ≠ n:=by intro l hl e;have:=List.find?_eq_none.1 hfd l hl;simp[e]at this
        obtain⟨q,hq,rfl⟩:=hx3.ptr_inv;exact .ptr n o q (by rw[hρ4o n hnm]; exact hq)
    · exact gen
  · intro n hne
    rw[<- hUall,ag6,ag6,ahQ,ahQ];by_cases h2:∃ l,l ∈ ls/\l.m=n
    · obtain⟨l,hl,rfl⟩:=h2
      exact .inl (.inr (List.mem_map.2 ⟨(l.m,none),List.mem_map.2 ⟨l,hl,rfl⟩,rfl⟩))
    · have h2':∀ l,l ∈ ls->l.m ≠ n:=λl hl e=>h2 ⟨l,hl,e⟩
      rw[hρ4o n h2']at hne;have:=hρ' n (by rw[hρ1 n h2']; exact hne);exact .inl (.inl (by rw[ahe]; exact this))
end Go.Mach
end
