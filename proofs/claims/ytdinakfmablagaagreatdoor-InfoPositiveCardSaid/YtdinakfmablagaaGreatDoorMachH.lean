/- The machine. Conditions: none. -/
import Derived.Test.YtdinakfmablagaaGreatDoorMachA
set_option linter.unusedVariables false
section
namespace Go.Mach
theorem Body.get_sound {c:Body} {o:Nat} {k:V->Bool} (h:c.get o k=true):∃ z,c.at o=some z/\k z=true:=by
 cases c with
 | flts xs=>
  simp only[Body.get]at h;obtain⟨h0,h1⟩:=and_true h;have hl:=afp h0;exact⟨_,by simp[Body.at,hl]; rfl,by simpa [hl]using h1⟩
 | ints q xs=>
  simp only[Body.get]at h;obtain⟨h0,h1⟩:=and_true h;have hl:=afp h0;exact⟨_,by simp[Body.at,hl]; rfl,by simpa [hl]using h1⟩
 | cells cs=>
  simp only[Body.get]at h;split at h
  ·rename_i v e; exact⟨v,e,h⟩
  ·cases h
 | recs t xs=>
  simp only[Body.get]at h;obtain⟨h0,h1⟩:=and_true h;obtain⟨h2,h3⟩:=and_true h1;have hz:t.sz=1:=by simpa using h0
  have hl:=afp h2;split at h3
  ·rename_i v e;refine⟨v,?_,h3⟩;show(t.flat xs)[o]? = some v;rw[t.flat_get1 hz,List.getElem?_eq_getElem hl];rw[List.getD_eq_getElem?_getD,List.getElem?_eq_getElem hl]at e;show(t.cells xs[o])[0]? = some v;rw[show t.cells xs[o]=[v] from e]; rfl
  ·cases h3
 | own t a xs hs=>simp[Body.get]at h
theorem Body.part_sound {c:Body} {o s:Nat} {k:List V->Bool} (h:c.part o s k=true):∃ zs,zs.length=s/\(∀(i:Nat) z,zs[i]? = some z->c.at (o+i)=some z)/\k zs=true:=by
 cases c with
 | flts xs=>
  simp only[Body.part]at h;obtain⟨h0,h1⟩:=and_true h;have hl:=afp h0;refine⟨_,by simp; omega,?_,h1⟩;intro i z hz;simp only[List.getElem?_map,List.getElem?_take,List.getElem?_drop]at hz;split at hz
  ·exact hz
  ·simp at hz
 | ints q xs=>
  simp only[Body.part]at h;obtain⟨h0,h1⟩:=and_true h;have hl:=afp h0;refine⟨_,by simp; omega,?_,h1⟩;intro i z hz;simp only[List.getElem?_map,List.getElem?_take,List.getElem?_drop]at hz;split at hz
  ·exact hz
  ·simp at hz
 | cells cs=>
  simp only[Body.part]at h;obtain⟨h0,h1⟩:=and_true h;have hl:=afp h0;refine⟨_,by simp; omega,?_,h1⟩;intro i z hz;simp only[List.getElem?_take,List.getElem?_drop]at hz;split at hz
  ·exact hz
  ·simp at hz
 | recs t xs=>
  simp only[Body.part]at h;obtain⟨h0,h1⟩:=and_true h;obtain⟨h2,h3⟩:=and_true h1;obtain⟨h4,h5⟩:=and_true h0;have hz:t.sz=1:=by simpa using h4
  have hs:s=1:=by simpa using h5
  have hl:=afp h2;have hlen:=t.cells_length (xs.getD o t.dflt);refine⟨_,by rw[hlen,hz,hs],λi z hi=>?_,h3⟩;have hi0:i=0:=by have:=(List.getElem?_eq_some_iff.1 hi).1; omega
  subst hi0;show(t.flat xs)[o+0]? = some z;rw[afR,t.flat_get1 hz,List.getElem?_eq_getElem hl];rw[List.getD_eq_getElem?_getD,List.getElem?_eq_getElem hl]at hi;exact hi
 | own t a xs hs=>simp[Body.part]at h
theorem ek {α:Type}:∀(vs cs:List α) (o:Nat),(setFrom cs o vs).length=cs.length
 | [],_,_=>rfl
 | v::r,cs,o=>by simp[setFrom,ek r]
theorem iO {α:Type}:∀(vs cs:List α) (o i:Nat),o+vs.length<=cs.length->(setFrom cs o vs)[i]? = if o<=i/\i<o+vs.length then vs[i - o]? else cs[i]?
 | [],cs,o,i,_=>by
  rw[if_neg (by simp only[ahu]; omega)]; rfl
 | v::r,cs,o,i,h=>by
  simp only[afW]at h;rw[setFrom,iO r (cs.set o v) (o+1) i (by simp; omega)];simp only[afW];by_cases e:i=o
  ·subst e;rw[if_neg (by omega),if_pos (by omega),List.getElem?_set];simp; try omega
  ·by_cases h1:o+1<=i/\i<o+1+r.length
   ·rw[if_pos h1,if_pos (by omega),show i - o=(i - (o+1))+1 from by omega];rfl
   ·rw[if_neg h1,if_neg (by omega),List.getElem?_set_ne (by omega)]
def Stands (v z:V):Prop:=∀(ok:Nat->Prop) (w:World) (ρ:Rho) (u:Value),Rep ok w ρ v u->Rep ok w ρ z u
theorem Stands.refl (v:V):Stands v v:=λ_ _ _ _ h=>h
theorem RT.parse_sound:∀(t:RT) (cs:List V) (x:t.Ty) (r:List V),t.parse cs=some (x,r)->(t.cells x++r).length=cs.length /\ ∀(i:Nat) z,(t.cells x++r)[i]? = some z -> ∃ c,cs[i]? = some c/\Stands c z:=by
 have one:∀(v z:V) (r:List V),Stands v z->([z]++r).length=(v::r).length /\ ∀(i:Nat) y,([z]++r)[i]? = some y -> ∃ c,(v::r)[i]? = some c/\Stands c y:=by
  intro v z r h;refine⟨by simp,λi y hy=>?_⟩;cases i with
  | zero=>simp at hy; subst hy; exact⟨v,rfl,h⟩
  | succ i=>exact⟨y,by simpa using hy,Stands.refl _⟩
 have nf:Stands .nil (.rof []):=λok w ρ u h=>by cases h; exact .rofn
 have ni:∀ k,Stands .nil (.roi k []):=λk ok w ρ u h=>by cases h; exact .roin k
 have nr:∀ t,Stands .nil (.rl t []):=λt ok w ρ u h=>by cases h; exact .rl t [] _ (.ron _)
 intro t;induction t with
 | flt=>intro cs x r h; cases cs with
  | nil=>simp[RT.parse]at h
  | cons c cs=>cases c <;> simp[RT.parse]at h; obtain⟨rfl,rfl⟩:=h; exact one _ _ _ (Stands.refl _)
 | int k=>intro cs x r h; cases cs with
  | nil=>simp[RT.parse]at h
  | cons c cs=>
   cases c <;> simp[RT.parse]at h
   rename_i k' n;by_cases e:k=k'
   ·subst e; simp at h; obtain⟨rfl,rfl⟩:=h; exact one _ _ _ (Stands.refl _)
   ·simp[e]at h
 | bool=>intro cs x r h; cases cs with
  | nil=>simp[RT.parse]at h
  | cons c cs=>cases c <;> simp[RT.parse]at h; obtain⟨rfl,rfl⟩:=h; exact one _ _ _ (Stands.refl _)
 | fls=>intro cs x r h; cases cs with
  | nil=>simp[RT.parse]at h
  | cons c cs=>
   cases c <;> simp[RT.parse]at h
   ·obtain⟨rfl,rfl⟩:=h; exact one _ _ _ nf
   ·obtain⟨rfl,rfl⟩:=h; exact one _ _ _ (Stands.refl _)
 | ints k=>intro cs x r h; cases cs with
  | nil=>simp[RT.parse]at h
  | cons c cs=>
   cases c <;> simp[RT.parse]at h
   ·obtain⟨rfl,rfl⟩:=h; exact one _ _ _ (ni k)
   ·rename_i k' n;by_cases e:k=k'
    ·subst e; simp at h; obtain⟨rfl,rfl⟩:=h; exact one _ _ _ (Stands.refl _)
    ·simp[e]at h
 | pair a b iha ihb=>
  intro cs x r h;simp only[RT.parse]at h;split at h
  ·rename_i x1 r1 h1;split at h
   ·rename_i y1 r2 h2;simp at h;obtain⟨rfl,rfl⟩:=h;obtain⟨l1,g1⟩:=iha cs x1 r1 h1;obtain⟨l2,g2⟩:=ihb r1 y1 r2 h2;show(a.cells x1++b.cells y1++r2).length=_ /\ ∀(i:Nat) z,(a.cells x1++b.cells y1++r2)[i]? = some z->_;rw[afC];refine⟨by rw[agy,l2,<- agy,l1],λi z hz=>?_⟩;rw[List.getElem?_append]at hz;split at hz
    ·rename_i hi;obtain⟨c,hc,hs⟩:=g1 i z (by rw[List.getElem?_append_left hi]; exact hz);exact⟨c,hc,hs⟩
    ·rename_i hi;obtain⟨c,hc,hs⟩:=g2 _ z hz;obtain⟨c',hc',hs'⟩:=g1 i c (by rw[List.getElem?_append_right (by omega)]; exact hc);exact⟨c',hc',λok w ρ u hu=>hs ok w ρ u (hs' ok w ρ u hu)⟩
   ·cases h
  ·cases h
 | rows a ih=>intro cs x r h; cases cs with
  | nil=>simp[RT.parse]at h
  | cons c cs=>
   cases c <;> simp only[RT.parse,reduceCtorEq]at h
   ·simp at h; obtain⟨rfl,rfl⟩:=h; exact one _ _ _ (nr a)
   ·rename_i t xs;obtain⟨e,h⟩:=RT.cast_inv h (by simp);subst e;simp at h; obtain⟨rfl,rfl⟩:=h; exact one _ _ _ (Stands.refl _)
 | ptr a ih=>intro cs x r h; cases cs with
  | nil=>simp[RT.parse]at h
  | cons c cs=>
   cases c <;> simp only[RT.parse,reduceCtorEq]at h
   rename_i ds i;by_cases e:i=0
   ·subst e;simp only[aha,afl]at h;split at h
    ·rename_i y h1;simp at h; obtain⟨rfl,rfl⟩:=h;obtain⟨l1,g1⟩:=ih ds y [] h1;rw[afU]at l1 g1;refine one _ _ _ λok w ρ u hu=>?_
     cases hu with
     | rp _ _ b o g hok hb hc h1 hr=>
      refine .rp _ 0 b o g hok hb (λj hj=>hc j (by omega)) (λj hj=>h1 j (by omega)) λj c hj=>?_
      obtain⟨c',hc',hs⟩:=g1 j c hj;exact hs _ _ _ _ (hr j c' hc')
    ·cases h
   ·have:(i==0)=false:=by simpa using e
    rw[this]at h; cases h
theorem RT.flat_set (t:RT) (hz:t.sz=1) (xs:List t.Ty) (o i:Nat) (x:t.Ty) (hl:o<xs.length):(t.flat (xs.set o x))[i]? = if i=o then(t.cells x)[0]? else(t.flat xs)[i]?:=by
 rw[t.flat_get1 hz,t.flat_get1 hz,List.getElem?_set];by_cases e:o=i
 ·subst e; simp[hl]
 ·rw[if_neg e,if_neg (λh=>e h.symm)]
theorem Body.set_sound {c:Body} {o:Nat} {v:V} {k:Body->Bool} (h:c.set o v k=true) :
  ∃ c',(c.isOwn=false/\c'.isOwn=false)/\k c'=true/\c'.size=c.size/\o<c.size/\v.one=true /\ ∀ i z,c'.at i=some z->(i=o/\Stands v z)\/(i ≠ o/\c.at i=some z):=by
 unfold Body.set at h;split at h
 ·rename_i xs x;obtain⟨h0,h1⟩:=and_true h;have hl:=afp h0;refine⟨_,⟨rfl,rfl⟩,h1,by simp[Body.size],hl,rfl,?_⟩;intro i z hz;simp only[Body.at,List.getElem?_set]at hz ⊢;by_cases e:o=i
  ·subst e; simp[hl]at hz; exact .inl ⟨rfl,hz ▸ Stands.refl _⟩
  ·simp only[e,afS]at hz; exact .inr ⟨λe'=>e e'.symm,hz⟩
 ·rename_i q xs q' n;obtain⟨h0,h1⟩:=and_true h;obtain⟨h1,h2⟩:=and_true h1;obtain rfl:=afp h0;have hl:=afp h1;refine⟨_,⟨rfl,rfl⟩,h2,by simp[Body.size],hl,rfl,?_⟩;intro i z hz;simp only[Body.at,List.getElem?_set]at hz ⊢;by_cases e:o=i
  ·subst e; simp[hl]at hz; exact .inl ⟨rfl,hz ▸ Stands.refl _⟩
  ·simp only[e,afS]at hz; exact .inr ⟨λe'=>e e'.symm,hz⟩
 ·rename_i cs;split at h
  ·rename_i u e;obtain⟨h0,h1⟩:=and_true h;have hl:o<cs.length:=(List.getElem?_eq_some_iff.1 e).1;refine⟨_,⟨rfl,rfl⟩,h1,by simp[Body.size],hl,h0,?_⟩;intro i z hz;simp only[Body.at,List.getElem?_set]at hz ⊢;by_cases e:o=i
   ·subst e; simp[hl]at hz; exact .inl ⟨rfl,hz ▸ Stands.refl _⟩
   ·simp only[e,afS]at hz; exact .inr ⟨λe'=>e e'.symm,hz⟩
  ·cases h
 ·rename_i t xs;obtain⟨h0,h1⟩:=and_true h;obtain⟨h2,h3⟩:=and_true h1;obtain⟨h4,hone⟩:=and_true h0;have hz:t.sz=1:=by simpa using h4
  have hl:=afp h2;split at h3
  ·rename_i x e;obtain⟨l1,g1⟩:=t.parse_sound _ _ _ e;rw[afU]at l1 g1;refine⟨_,⟨rfl,rfl⟩,h3,by simp[Body.size],by simp[Body.size,aQ,hz,hl],hone,?_⟩;intro i z hi;have hi:(t.flat (xs.set o x))[i]? = some z:=hi;rw[t.flat_set hz _ _ _ _ hl]at hi;by_cases e:i=o
   ·rw[if_pos e]at hi;obtain⟨c,hc,hs⟩:=g1 0 z hi;simp at hc; subst hc;exact .inl ⟨e,hs⟩
   ·rw[if_neg e]at hi; exact .inr ⟨e,hi⟩
  ·cases h3
 ·cases h
theorem xF:∀{cs:List V} {xs:List Fl},z_ cs=some xs->cs=xs.map V.flt
 | [],xs,h=>by simp[z_]at h; subst h; rfl
 | .flt x::r,xs,h=>by
  simp only[z_,afQ]at h;obtain⟨ys,hy,rfl⟩:=h;simp[xF hy]
 | .any::_,_,h | .nil::_,_,h | .bool _::_,_,h | .int _ _::_,_,h | .val _::_,_,h | .fn _ _::_,_,h | .ptr _ _::_,_,h | .slw _::_,_,h | .sl _ _ _::_,_,h | .rof _::_,_,h | .roi _ _::_,_,h
 | .ro _ _::_,_,h | .pf _ _::_,_,h | .pi _ _ _::_,_,h | .rp _ _::_,_,h | .agg _::_,_,h | .tup _::_,_,h | .rl _ _::_,_,h=>by simp[z_]at h
theorem vw {q:IntKind}:∀{cs:List V} {xs:List Int},vv q cs=some xs->cs=xs.map (V.int q)
 | [],xs,h=>by simp[vv]at h; subst h; rfl
 | .int q' n::r,xs,h=>by
  simp only[vv]at h;by_cases e:q'=q
  ·subst e;simp only[aiu,afl,afQ]at h;obtain⟨ys,hy,rfl⟩:=h;simp[vw hy]
  ·simp[e]at h
 | .any::_,_,h | .nil::_,_,h | .bool _::_,_,h | .flt _::_,_,h | .val _::_,_,h | .fn _ _::_,_,h | .ptr _ _::_,_,h | .slw _::_,_,h | .sl _ _ _::_,_,h | .rof _::_,_,h | .roi _ _::_,_,h
 | .ro _ _::_,_,h | .pf _ _::_,_,h | .pi _ _ _::_,_,h | .rp _ _::_,_,h | .agg _::_,_,h | .tup _::_,_,h | .rl _ _::_,_,h=>by simp[vv]at h
theorem Body.setPart_sound {c:Body} {o:Nat} {vs:List V} {k:Body->Bool} (h:c.setPart o vs k=true) :
  ∃ c',(c.isOwn=false/\c'.isOwn=false)/\k c'=true/\c'.size=c.size/\o+vs.length<=c.size/\vs.all V.one=true /\ ∀ i z,c'.at i=some z->(o<=i/\i<o+vs.length /\ ∃ v,vs[i - o]? = some v/\Stands v z)\/(¬(o<=i/\i<o+vs.length)/\c.at i=some z):=by
 unfold Body.setPart at h;split at h
 ·rename_i cs;obtain⟨h0,h1⟩:=and_true h;obtain⟨h1,h2⟩:=and_true h1;have hl:=afp h0;refine⟨_,⟨rfl,rfl⟩,h2,ek _ _ _,hl,h1,?_⟩;intro i z hz;simp only[Body.at,iO _ _ _ _ hl]at hz ⊢;by_cases e:o<=i/\i<o+vs.length
  ·rw[if_pos e]at hz; exact .inl ⟨e.1,e.2,z,hz,Stands.refl _⟩
  ·rw[if_neg e]at hz; exact .inr ⟨e,hz⟩
 ·rename_i xs;split at h
  ·rename_i ys hys;obtain rfl:=xF hys;obtain⟨h0,h1⟩:=and_true h;have hl:=afp h0;rw[ahm]at hl ⊢;refine⟨_,⟨rfl,rfl⟩,h1,ek _ _ _,hl,by simp[V.one],?_⟩;intro i z hz;simp only[Body.at,iO _ _ _ _ hl,List.getElem?_map]at hz ⊢;by_cases e:o<=i/\i<o+ys.length
   ·rw[if_pos e]at hz; exact .inl ⟨e.1,e.2,z,hz,Stands.refl _⟩
   ·rw[if_neg e]at hz; exact .inr ⟨e,hz⟩
  ·cases h
 ·rename_i q xs;split at h
  ·rename_i ys hys;obtain rfl:=vw hys;obtain⟨h0,h1⟩:=and_true h;have hl:=afp h0;rw[ahm]at hl ⊢;refine⟨_,⟨rfl,rfl⟩,h1,ek _ _ _,hl,by simp[V.one],?_⟩;intro i z hz;simp only[Body.at,iO _ _ _ _ hl,List.getElem?_map]at hz ⊢;by_cases e:o<=i/\i<o+ys.length
   ·rw[if_pos e]at hz; exact .inl ⟨e.1,e.2,z,hz,Stands.refl _⟩
   ·rw[if_neg e]at hz; exact .inr ⟨e,hz⟩
  ·cases h
 ·rename_i t xs;obtain⟨h0,h1⟩:=and_true h;obtain⟨h2,h3⟩:=and_true h1;obtain⟨h4,h5⟩:=and_true h0;obtain⟨h6,hone⟩:=and_true h5;have hz:t.sz=1:=by simpa using h4
  have hv:vs.length=1:=by simpa using h6
  have hl:=afp h2;split at h3
  ·rename_i x e;obtain⟨l1,g1⟩:=t.parse_sound _ _ _ e;rw[afU]at l1 g1;refine⟨_,⟨rfl,rfl⟩,h3,by simp[Body.size],by simp only[Body.size,aQ,hz,hv]; omega,hone,?_⟩;intro i z hi;have hi:(t.flat (xs.set o x))[i]? = some z:=hi;rw[t.flat_set hz _ _ _ _ hl]at hi;by_cases e:i=o
   ·rw[if_pos e]at hi;obtain⟨c,hc,hs⟩:=g1 0 z hi;exact .inl ⟨by omega,by omega,c,by rw[e,afT]; exact hc,hs⟩
   ·rw[if_neg e]at hi; exact .inr ⟨by omega,hi⟩
  ·cases h3
 ·cases h
theorem KO {c:Body} {s len:Nat} (h:len*s=c.size):sm c s<=len:=by
 unfold sm;split
 ·omega
 ·rename_i h1;rw[<- h];by_cases h0:s=0
  ·simp[h0]
  ·rw[ag8 _ (by omega)]; omega
theorem KN {c:Body} {s len:Nat} (h:len*s=c.size) (h0:¬ s=0):sm c s=len:=by
 unfold sm;split
 ·omega
 ·rw[<- h,ag8 _ (by omega)]
theorem vA {blk:Blk}:blk.count=sm blk.c blk.sz \/ ∃ t xs,blk.c=.recs t xs/\blk.sz=t.sz/\blk.count=xs.length:=by
 unfold Blk.count;split
 ·rename_i t xs hc;cases e:blk.sz==t.sz with
  | false=>rw[afk,hc]; exact .inl rfl
  | true=>exact .inr ⟨t,xs,hc,by simpa using e,rfl⟩
 ·exact .inl rfl
theorem N0 {blk:Blk} {len:Nat} (h:len*blk.sz=blk.c.size):blk.count<=len:=by
 rcases vA (blk:=blk)with e | ⟨t,xs,hc,hs,e⟩
 ·rw[e]; exact KO h
 ·rw[e];rw[hc,hs]at h;simp only[Body.size,aQ]at h;have:=t.sz_pos;exact ahv (agO this h).symm
theorem wK {blk:Blk} {len:Nat} (h:len*blk.sz=blk.c.size) (h0:¬ blk.sz=0):blk.count=len:=by
 rcases vA (blk:=blk)with e | ⟨t,xs,hc,hs,e⟩
 ·rw[e]; exact KN h h0
 ·rw[e];rw[hc,hs]at h;simp only[Body.size,aQ]at h;have:=t.sz_pos;exact(agO this h).symm
section
variable {ok:Nat->Prop} {w:World} {ρ:Rho} {v:Value}
theorem Rep.slw_inv {n:Nat} (h:Rep ok w ρ (.slw n) v):(∃ p,ρ n=some (some p)/\v=.slice (some ⟨p.b,0,none⟩) p.len p.cap)\/(ρ n=some none/\v=.slice none 0 0):=by
 cases h with
 | slw n p h=>exact .inl ⟨p,h,rfl⟩
 | slv n h=>exact .inr ⟨h,rfl⟩
theorem Rep.sl_inv {n o len:Nat} (h:Rep ok w ρ (.sl n o len) v):(∃ p cap o',ρ n=some (some p)/\len<=cap/\(o'=o\/len=0)/\(o=0->o'=0/\cap<=p.cap)/\v=.slice (some ⟨p.b,o',none⟩) len cap)\/(ρ n=some none/\len=0/\v=.slice none 0 0):=by
 cases h with
 | sl n o len cap o' p h hl ho hc=>exact .inl ⟨p,cap,o',h,hl,ho,hc,rfl⟩
 | slvp n o h=>exact .inr ⟨h,rfl,rfl⟩
theorem Rep.rof_inv {xs:List Fl} (h:Rep ok w ρ (.rof xs) v):(xs=[] /\ ∃ ea ecap,v=.slice ea 0 ecap) \/ ∃(b o cap:Nat) (g:Nat->Value),v=.slice (some ⟨b,o,none⟩) xs.length cap/\ok b/\b<w.heap.size/\xs.length<=cap /\
  (∀ i,i<xs.length->w.cell? ⟨b,o+i,none⟩=some (g i))/\(∀(i:Nat) x,xs[i]? = some x->FRep x (g i)):=by
 cases h with
 | rofn=>exact .inl ⟨rfl,_,_,rfl⟩
 | rof xs b o cap g h1 h2 h3 h4 h5=>exact .inr ⟨b,o,cap,g,rfl,h1,h2,h3,h4,h5⟩
theorem Rep.roi_inv {k:IntKind} {xs:List Int} (h:Rep ok w ρ (.roi k xs) v):(xs=[] /\ ∃ ea ecap,v=.slice ea 0 ecap) \/ ∃(b o cap:Nat),v=.slice (some ⟨b,o,none⟩) xs.length cap/\ok b/\b<w.heap.size/\xs.length<=cap /\
  (∀(i:Nat) x,xs[i]? = some x->w.cell? ⟨b,o+i,none⟩=some (.int k x)):=by
 cases h with
 | roin=>exact .inl ⟨rfl,_,_,rfl⟩
 | roi k xs b o cap h1 h2 h3 h4=>exact .inr ⟨b,o,cap,rfl,h1,h2,h3,h4⟩
theorem Rep.rl_inv {t:RT} {xs:List t.Ty} (h:Rep ok w ρ (.rl t xs) v):Rep ok w ρ (.ro t.sz (t.flat xs)) v:=by
 cases h with
 | rl t xs v h=>exact h
theorem Rep.ro_inv {sz:Nat} {cs:List V} (h:Rep ok w ρ (.ro sz cs) v):(cs=[] /\ ∃ ea ecap,v=.slice ea 0 ecap) \/ ∃(b o len cap:Nat) (g:Nat->Value),v=.slice (some ⟨b,o,none⟩) len cap/\ok b/\b<w.heap.size/\len*sz=cs.length/\len<=cap /\
  (∀ i,i<cs.length->w.cell? ⟨b,o+i,none⟩=some (g i))/\(∀ i,i<cs.length->(g i).oneCell'=true)/\(∀(i:Nat) c,cs[i]? = some c->Rep ok w ρ c (g i)):=by
 cases h with
 | ron=>exact .inl ⟨rfl,_,_,rfl⟩
 | ro sz cs b o len cap g h1 h2 h3 h4 h5 h6 h7=>exact .inr ⟨b,o,len,cap,g,rfl,h1,h2,h3,h4,h5,h6,h7⟩
end
theorem oH {P:Program} {t e:Nat} (h:xI P t=some e):P.underlying t=some (.slice e):=by
 unfold xI at h; split at h
 ·cases h; assumption
 ·cases h
theorem SimW.place {G:Gh} {w:World} {ρ:Rho} {L:LK} (hs:SimW G w ρ L) {n:Nat} {blk:Blk} {p:Place} (hL:L n=some blk) (hp:ρ n=some (some p)) :
  ∃ cur,w.heap[p.b]? = some (.cells cur blk.e (0,0))/\p.cap*blk.sz<=cur.size/\p.len*blk.sz=blk.c.size/\p.len<=p.cap/\p.cap<=maxLen/\BodyRep (okc G ρ L) w ρ blk.c cur:=by
 obtain⟨q,hq,hb⟩:=hs.blks n blk hL;rw[hp]at hq; cases hq;obtain⟨cur,g1,g2,g3,g4,g5,g6,-⟩:=hb;exact⟨cur,g1,g2,g3,g4,g5,g6⟩
theorem SimW.subp {G:Gh} {w:World} {ρ:Rho} {L:LK} (hs:SimW G w ρ L) {n:Nat} {blk:Blk} {tt:Nat} {a:RT} {xs:List a.Ty} {hh:List Nat} {p:Place} (hL:L n=some blk) (hc:blk.c=.own tt a xs hh) (hp:ρ n=some (some p)) {j:Nat} (hj:j<xs.length) :
  ∃ b cur,w.heap[p.b]? = some (.cells cur blk.e (0,0))/\p.subs[j]? = some b/\cur[j]? = some (.pointer (some ⟨b,0,none⟩)):=by
 obtain⟨q,hq,hb⟩:=hs.blks n blk hL;rw[hp]at hq; cases hq;obtain⟨cur,g1,g2,g3,g4,g5,g6,g7⟩:=hb;rw[hc]at g7;obtain⟨k1,k2,k3,k4⟩:=g7;obtain⟨b,b1,b2,-⟩:=k4 j xs[j] (List.getElem?_eq_getElem hj);exact⟨b,cur,g1,b1,b2⟩
theorem SimW.sub {G:Gh} {w:World} {ρ:Rho} {L:LK} (hs:SimW G w ρ L) {n:Nat} {blk:Blk} {tt:Nat} {a:RT} {xs:List a.Ty} {hh:List Nat} {p:Place} (hL:L n=some blk) (hc:blk.c=.own tt a xs hh) (hp:ρ n=some (some p)) {j b:Nat} (hj:p.subs[j]? = some b) (hn:j ∉ hh) :
  ∃ x cur,xs[j]? = some x/\w.heap[b]? = some (.cells cur tt (0,0))/\a.sz<=cur.size/\BodyRep (okc G ρ L) w ρ (.cells (a.cells x)) cur:=by
 obtain⟨q,hq,hb⟩:=hs.blks n blk hL;rw[hp]at hq; cases hq;obtain⟨cur,g1,g2,g3,g4,g5,g6,g7⟩:=hb;rw[hc]at g7;obtain⟨k1,k2,k3,k4⟩:=g7;have hl:j<xs.length:=by rw[<- k1]; exact(List.getElem?_eq_some_iff.1 hj).1
 obtain⟨b',b1,-,b3⟩:=k4 j xs[j] (List.getElem?_eq_getElem hl);rw[hj]at b1; cases b1;obtain⟨cur',c1,c2,c3⟩:=b3 hn;exact⟨_,cur',List.getElem?_eq_getElem hl,c1,c2,c3⟩
theorem SimW.empty {G:Gh} {w:World} {ρ:Rho} {L:LK} (hs:SimW G w ρ L) {n:Nat} {blk:Blk} (hL:L n=some blk) (hp:ρ n=some none):blk.c.size=0:=by obtain⟨q,hq,hb⟩:=hs.blks n blk hL;rw[hp]at hq; cases hq;exact hb
theorem vB {blk:Blk} (h:blk.c.size=0):blk.count=0:=by
 rcases vA (blk:=blk)with e | ⟨t,xs,hc,hs,e⟩
 ·rw[e]; unfold sm; split <;> simp[h]
 ·rw[e];rw[hc]at h;simp only[Body.size,aQ]at h;have:=t.sz_pos;rcases Nat.mul_eq_zero.1 h with h | h
  ·exact h
  ·omega
theorem ui {P:Program} {w:World} {t e s b o len cap:Nat} {q:IntKind} {i:Int} (ht:P.underlying t=some (.slice e)) (hs:iP P e=some s) (h0:0<=i) (h1:i<(len:Int)) :
  (Instr.indexAt t (.slice (some ⟨b,o,none⟩) len cap) (.int q i)).run P w=.ok (.pointer (some ⟨b,o+i.toNat*s,none⟩)) w:=by
 simp[Instr.indexAt,asIntOf,run_underlying ht,h0,h1,eu hs,eK]
theorem sC {P:Program} {w:World} {t e s b o len:Nat} {q:IntKind} {i:Int} (ht:P.underlying t=some (.array len e)) (hs:iP P e=some s) (h0:0<=i) (h1:i<(len:Int)) :
  (Instr.indexAt t (.pointer (some ⟨b,o,none⟩)) (.int q i)).run P w=.ok (.pointer (some ⟨b,o+i.toNat*s,none⟩)) w:=by
 simp[Instr.indexAt,asIntOf,run_underlying ht,Instr.sureAddr,h0,h1,eu hs,eK]
theorem HY {P:Program} {M:aL} {t:TypeId} {x:V} {q:IntKind} {i:Int} {k:V->Bool} (h:VJ P M t x i k=true) :
  ∃ z,k z=true /\ ∀(G:Gh) (w:World) (ρ:Rho) (L:LK) (v:Value),SimW G w ρ L->(∀ n,n ∈ x.refs->L n=aq M n)->Rep (okc G ρ L) w ρ x v ->
   ∃ r,(Instr.indexAt t v (.int q i)).run P w=.ok r w/\Rep (okc G ρ L) w ρ z r:=by
 unfold VJ at h;split at h
 ·rename_i e ht;split at h
  ·rename_i s hs;split at h
   ·rename_i xs;obtain⟨h1,h'⟩:=and_true h;obtain⟨h2,h''⟩:=and_true h';clear h h';obtain rfl:s=1:=by simpa using h1
    have hi:=kx h2;refine⟨_,h'',λG w ρ L v _ _ hx=>?_⟩;rcases hx.rof_inv with⟨rfl,_⟩ | ⟨b,o,cap,g,rfl,ho,hb,hc,hcell,hrep⟩
    ·simp at hi; omega
    ·have hlt:i.toNat<xs.length:=by omega
     exact⟨_,ui ht hs hi.1 hi.2,.pf xs _ b _ (g i.toNat) (by rw[ag9]; exact hcell _ hlt) (by simpa [hlt]using hrep i.toNat _ (by simp[hlt])) ho hb⟩
   ·rename_i q' xs;obtain⟨h1,h'⟩:=and_true h;obtain⟨h2,h''⟩:=and_true h';clear h h';obtain rfl:s=1:=by simpa using h1
    have hi:=kx h2;refine⟨_,h'',λG w ρ L v _ _ hx=>?_⟩;rcases hx.roi_inv with⟨rfl,_⟩ | ⟨b,o,cap,rfl,ho,hb,hc,hcell⟩
    ·simp at hi; omega
    ·have hlt:i.toNat<xs.length:=by omega
     exact⟨_,ui ht hs hi.1 hi.2,.pi q' xs _ b _ (by rw[ag9]; simpa [hlt]using hcell i.toNat _ (by simp[hlt])) ho hb⟩
   ·rename_i sz cs;obtain⟨h1,h'⟩:=and_true h;obtain⟨h2,h'⟩:=and_true h';obtain⟨h3,h''⟩:=and_true h';clear h h';obtain rfl:s=sz:=by simpa using h1
    have hs0:¬ s=0:=by simpa using h2
    have hi:=kx h3;refine⟨_,h'',λG w ρ L v _ _ hx=>?_⟩;rcases hx.ro_inv with⟨rfl,_⟩ | ⟨b,o,len,cap,g,rfl,ho,hb,hl,hc,hcell,h1,hrep⟩
    ·simp at hi; omega
    ·have hlen:cs.length / s=len:=by rw[<- hl,ag8 _ (by omega)]
     rw[hlen]at hi;refine⟨_,ui ht hs hi.1 hi.2,.rp cs _ b _ g ho hb ?_ h1 hrep⟩;intro j hj;rw[aQ]at hj ⊢;have:=hcell (i.toNat*s+j) hj;rw[<- afY]at this;exact this
   ·rename_i t' xs;obtain⟨h1,h'⟩:=and_true h;obtain⟨h2,h''⟩:=and_true h';clear h h';obtain rfl:s=t'.sz:=by simpa using h1
    have hi:=kx h2;have hlt:i.toNat<xs.length:=by omega
    refine⟨_,h'',λG w ρ L v _ _ hx=>?_⟩;rcases hx.rl_inv.ro_inv with⟨h0,_⟩ | ⟨b,o,len,cap,g,rfl,ho,hb,hl,hc,hcell,h1,hrep⟩
    ·have:=t'.flat_length xs;rw[h0]at this;have hp:=t'.sz_pos;have:=ahj (show 0<xs.length by omega) hp;simp at *; omega
    ·have hfl:=t'.flat_length xs;have hlen:len=xs.length:=agO t'.sz_pos (by rw[hl,hfl]);have hle:i.toNat*t'.sz+t'.sz<=(t'.flat xs).length:=by rw[hfl,<- agS]; exact afm _ hlt
     rw[List.getD_eq_getElem?_getD,List.getElem?_eq_getElem hlt];show ∃ r,_/\Rep _ w ρ (.rp (t'.cells xs[i.toNat]) 0) r;have hcl:=t'.cells_length xs[i.toNat];refine⟨_,ui ht hs hi.1 (by omega),.rp _ 0 b _ (λj=>g (i.toNat*t'.sz+j)) ho hb (λj hj=>?_) (λj hj=>h1 _ (by omega)) λj c hj=>hrep _ c ?_⟩
     ·rw[afL,afY]; exact hcell _ (by omega)
     ·have hjl:j<t'.sz:=by rw[<- hcl]; exact(List.getElem?_eq_some_iff.1 hj).1
      rw[t'.flat_get xs _ _ hjl,List.getElem?_eq_getElem hlt]; exact hj
   ·rename_i n;split at h
    ·rename_i blk hM;obtain⟨h1,h⟩:=and_true h;obtain⟨h2,h⟩:=and_true h;obtain rfl:s=blk.sz:=by simpa using h1
     have hi:=kx h2;refine⟨_,h,λG w ρ L v hsim hagree hx=>?_⟩;have hL:L n=some blk:=by rw[hagree n (by simp[V.refs]),hM]
     rcases hx.slw_inv with⟨p,hp,rfl⟩ | ⟨hp,rfl⟩
     ·obtain⟨cur,c1,c2,c3,c4,c5,c6⟩:=hsim.place hL hp;have:=N0 c3;refine⟨_,ui ht hs hi.1 (by omega),?_⟩;rw[aQ,afL];exact .ptr n _ p hp
     ·have:=vB (hsim.empty hL hp); omega
    ·cases h
   ·rename_i n o len;split at h
    ·rename_i blk hM;obtain⟨h1,h⟩:=and_true h;obtain⟨h2,h⟩:=and_true h;have hi:=kx h2;refine⟨_,h,λG w ρ L v hsim hagree hx=>?_⟩;rcases hx.sl_inv with⟨p,cap,o',hp,hcap,ho',-,rfl⟩ | ⟨hp,rfl,_⟩
     ·obtain rfl:o'=o:=ho'.resolve_right (by omega);refine⟨_,ui ht hs hi.1 hi.2,?_⟩;rw[aQ];exact .ptr n _ p hp
     ·simp at hi; omega
    ·cases h
   ·cases h
  ·cases h
 ·rename_i len e ht;split at h
  ·rename_i s hs;split at h
   ·rename_i n o;obtain⟨h1,h⟩:=and_true h;have hi:=kx h1;refine⟨_,h,λG w ρ L v hsim hagree hx=>?_⟩;obtain⟨p,hp,rfl⟩:=hx.ptr_inv;refine⟨_,sC ht hs hi.1 hi.2,?_⟩;rw[aQ];exact .ptr n _ p hp
   ·rename_i cs o;obtain⟨h1,h⟩:=and_true h;have hi:=kx h1;refine⟨_,h,λG w ρ L v hsim hagree hx=>?_⟩;obtain⟨b,o',g,rfl,ho,hb,hc,hone,hr⟩:=hx.rp_inv;refine⟨_,sC ht hs hi.1 hi.2,.rp cs _ b _ g ho hb ?_ hone hr⟩;intro j hj;rw[aQ]at hj ⊢;have:=hc (i.toNat*s+j) (by omega);rw[<- afY,<- afY]at this;exact this
   ·rename_i b;split at h
    ·rename_i zs hz;obtain⟨h1,h5⟩:=and_true h;obtain⟨h2,h6⟩:=and_true h5;obtain⟨h3,h7⟩:=and_true h6;clear h h5 h6;obtain rfl:s=1:=by simpa using h1
     have hlen:zs.length=len:=afp h2;have hi:=kx h3;refine⟨_,h7,λG w ρ L v hsim hagree hx=>?_⟩;obtain rfl:=hx.val_inv;obtain⟨t1,t2,t3⟩:=hsim.tab b zs hz;refine⟨_,sC ht hs hi.1 hi.2,.pi .u8 zs _ b _ ?_ ⟨.inl t1,λn blk p _ hp he=>hsim.apartB hp hz he.has⟩ t2⟩;rw[ag9,afL];exact t3 _ (by omega)
    ·cases h
   ·cases h
  ·cases h
 ·cases h
theorem Iq {P:Program} {M:aL} {t:TypeId} {x:V} {k:V->Bool} (h:VQ P M t x k=true) :
  ∃ z,k z=true /\ ∀(G:Gh) (w:World) (ρ:Rho) (L:LK) (v:Value) (ty:TypeId),SimW G w ρ L->(∀ n,n ∈ x.refs->L n=aq M n)->Rep (okc G ρ L) w ρ x v ->
   ∃ r,(Builtin.len_ #[t] ty #[v]).run P w=.ok r w/\Rep (okc G ρ L) w ρ z r:=by
 have sl:∀{e:Nat} {w:World} (a:Option Addr) (n c:Nat) (ty:TypeId),P.underlying t=some (.slice e)->(Builtin.len_ #[t] ty #[.slice a n c]).run P w=.ok (.int .i64 n) w:=by intro e w a n c ty ht;simp[Builtin.len_,run_underlying ht,goInt]
 unfold VQ at h;split at h
 ·rename_i e ht;exact⟨_,h,λG w ρ L v ty _ _ hx=>by obtain rfl:=hx.nil_inv; exact⟨_,sl _ _ _ _ ht,.int _ _⟩⟩
 ·rename_i e xs ht;refine⟨_,h,λG w ρ L v ty _ _ hx=>?_⟩;rcases hx.rof_inv with⟨rfl,ea,ecap,rfl⟩ | ⟨b,o,cap,g,rfl,_⟩
  ·exact⟨_,sl _ _ _ _ ht,.int _ _⟩
  ·exact⟨_,sl _ _ _ _ ht,.int _ _⟩
 ·rename_i e q xs ht;refine⟨_,h,λG w ρ L v ty _ _ hx=>?_⟩;rcases hx.roi_inv with⟨rfl,ea,ecap,rfl⟩ | ⟨b,o,cap,rfl,_⟩
  ·exact⟨_,sl _ _ _ _ ht,.int _ _⟩
  ·exact⟨_,sl _ _ _ _ ht,.int _ _⟩
 ·rename_i e t' xs ht;refine⟨_,h,λG w ρ L v ty _ _ hx=>?_⟩;have hfl:=t'.flat_length xs;rcases hx.rl_inv.ro_inv with⟨h0,ea,ecap,rfl⟩ | ⟨b,o,len,cap,g,rfl,_,_,hl,_⟩
  ·rw[h0]at hfl;have:xs.length=0:=by
    rcases Nat.mul_eq_zero.1 hfl.symm with h | h
    ·exact h
    ·have:=t'.sz_pos; omega
   refine⟨_,sl _ _ _ _ ht,?_⟩; rw[this]; exact .int _ _
  ·have hlen:len=xs.length:=agO t'.sz_pos (by rw[hl,hfl]);refine⟨_,sl _ _ _ _ ht,?_⟩; rw[hlen]; exact .int _ _
 ·rename_i e sz cs ht;obtain⟨h1,h⟩:=and_true h;have hs0:¬ sz=0:=by simpa using h1
  refine⟨_,h,λG w ρ L v ty _ _ hx=>?_⟩;rcases hx.ro_inv with⟨rfl,ea,ecap,rfl⟩ | ⟨b,o,len,cap,g,rfl,_,_,hl,_⟩
  ·refine⟨_,sl _ _ _ _ ht,?_⟩; simp; exact .int _ _
  ·refine⟨_,sl _ _ _ _ ht,?_⟩; rw[<- hl,ag8 _ (by omega)]; exact .int _ _
 ·rename_i e n ht;split at h
  ·rename_i blk hM;obtain⟨h1,h⟩:=and_true h;have hs0:¬ blk.sz=0:=by simpa using h1
   refine⟨_,h,λG w ρ L v ty hsim hagree hx=>?_⟩;have hL:L n=some blk:=by rw[hagree n (by simp[V.refs]),hM]
   rcases hx.slw_inv with⟨p,hp,rfl⟩ | ⟨hp,rfl⟩
   ·obtain⟨cur,c1,c2,c3,c4,c5,c6⟩:=hsim.place hL hp;refine⟨_,sl _ _ _ _ ht,?_⟩;rw[wK c3 hs0]; exact .int _ _
   ·refine⟨_,sl _ _ _ _ ht,?_⟩;rw[vB (hsim.empty hL hp)]; exact .int _ _
  ·cases h
 ·rename_i e n o len ht;refine⟨_,h,λG w ρ L v ty _ _ hx=>?_⟩;rcases hx.sl_inv with⟨p,cap,o',hp,hcap,_,-,rfl⟩ | ⟨hp,rfl,rfl⟩
  ·exact⟨_,sl _ _ _ _ ht,.int _ _⟩
  ·exact⟨_,sl _ _ _ _ ht,.int _ _⟩
 ·rename_i n e ht;refine⟨_,h,λG w ρ L v ty _ _ hx=>⟨.int .i64 n,?_,.int _ _⟩⟩;cases v <;> simp[Builtin.len_,run_underlying ht,goInt]
 ·rename_i s ht;refine⟨_,h,λG w ρ L v ty _ _ hx=>?_⟩;obtain rfl:=hx.val_inv;exact⟨.int .i64 s.size,by simp[Builtin.len_,run_underlying ht,goInt],.int _ _⟩
 ·cases h
section
variable {cx:Cx} {base:Nat} {F:List V} {M:aL} {k:KOp}
theorem zG {t:TypeId} {x j:Operand} (h:opV cx base F M (.indexAddr t x j) k=true):∃ z U T,bG cx.P base F M (.indexAddr t x j) z U T/\k z U T=true:=by
 simp only[opV]at h;split at h
 ·rename_i q i e;obtain⟨z,hk,hz⟩:=HY (q:=q) h;refine⟨z,_,_,aS (λG w ρ L a o' ho hs hops hT=>?_),hk⟩;have hj:=hops j (by simp[Op.operands]); rw[e]at hj;obtain⟨r,hr,hrep⟩:=hz G w ρ L _ hs hT (hops x (by simp[Op.operands]));exact⟨r,w,by simp[execOp,ho,hj.int_inv,hr],.inl rfl,hrep⟩
 ·cases h
theorem jA {P:Program} {ok:Nat->Prop} {w:World} {ρ:Rho} {t s:Nat} {g:Bool} {b o:Nat} (hg:pp P t=some g) (hs:iP P t=some s) {z:V}
  (h:(g=true /\ ∃ zs,z=.agg zs/\zs.length=s /\ ∀(i:Nat) c,zs[i]? = some c -> ∃ v,w.cell? ⟨b,o+i,none⟩=some v/\v.oneCell'=true/\Rep ok w ρ c v) \/
   (g=false /\ ∃ v,w.cell? ⟨b,o,none⟩=some v/\Rep ok w ρ z v)) :
  ∃ v,(Instr.loadAt t (.pointer (some ⟨b,o,none⟩))).run P w=.ok v w/\Rep ok w ρ z v:=by
 rcases h with⟨rfl,zs,rfl,hl,h⟩ | ⟨rfl,v,hc,hv⟩
 ·have hf:∀ i,∃ u:Value,i<zs.length->(w.cell? ⟨b,o+i,none⟩=some u/\u.oneCell'=true /\ ∀ c,zs[i]? = some c->Rep ok w ρ c u):=by
   intro i;by_cases hi:i<zs.length
   ·obtain⟨u,h1,h2,h3⟩:=h i zs[i] (by simp[hi]);exact⟨u,λ_=>⟨h1,h2,λc hc=>by simp[hi]at hc; subst hc; exact h3⟩⟩
   ·exact⟨.bool false,λh=>absurd h hi⟩
  have hf':=Classical.skolem.1 hf;obtain⟨f,hf⟩:=hf';have hr:(loadCells ⟨b,o,none⟩ s).run P w=.ok ((List.range s).map f).toArray w:=
   run_loadCells w _ s f λj hj=>by rw[eK]; exact(hf j (by omega)).1
  refine⟨.agg ((List.range s).map f).toArray,by simp only[Instr.loadAt,Instr.sureAddr,Sem.run_bind,Sem.run_pure,Result.andThen_ok,loadVar,qG hg,agU,eu hs,hr],.agg _ _ (by simp[hl]) ?_ ?_⟩
  ·intro u hu;obtain⟨i,hi,rfl⟩:=List.mem_map.1 hu;exact(hf i (by rw[hl]; exact List.mem_range.1 hi)).2.1
  ·intro i c u hc hu;have hi:i<zs.length:=(List.getElem?_eq_some_iff.1 hc).1;rw[List.getElem?_map,List.getElem?_range (by omega)]at hu;cases hu;exact(hf i hi).2.2 c hc
 ·exact⟨v,by simp[Instr.loadAt,Instr.sureAddr,loadVar,qG hg,hc],hv⟩
theorem aW {w:World} {b o:Nat} {cur:Array Value} {e:Nat} {v:Value} (h:w.heap[b]? = some (.cells cur e (0,0))) (hv:cur[o]? = some v):w.cell? ⟨b,o,none⟩=some v:=by simp[World.cell?,h,hv]
theorem IM {t:TypeId} {x:Operand} (h:opV cx base F M (.load t x) k=true):∃ z U T,bG cx.P base F M (.load t x) z U T/\k z U T=true:=by
 simp only[opV]at h;split at h
 ·rename_i ag s hag hsz;split at h
  ·rename_i n p e;split at h
   ·rename_i blk hM;have main:∀ z,((ag=true /\ ∃ zs,z=.agg zs/\zs.length=s /\ ∀(i:Nat) c,zs[i]? = some c->blk.c.at (p+i)=some c)\/(ag=false/\blk.c.at p=some z))->bG cx.P base F M (.load t x) z [] [n]:=by
     intro z hz;refine aS (λG w ρ L a o' ho hs hops hT=>?_);have hx:=hops x (by simp[Op.operands]); rw[e]at hx;obtain⟨pl,hp,hv⟩:=hx.ptr_inv;have hL:L n=some blk:=by rw[hT n (by simp),hM]
     obtain⟨cur,c1,c2,c3,c4,c5,c6⟩:=hs.place hL hp;have key:∃ v,(Instr.loadAt t (.pointer (some ⟨pl.b,p,none⟩))).run cx.P w=.ok v w/\Rep (okc G ρ L) w ρ z v:=by
      refine jA hag hsz ?_;rcases hz with⟨h1,zs,h2,h3,h4⟩ | ⟨h1,h2⟩
      ·refine .inl ⟨h1,zs,h2,h3,λi c hc=>?_⟩;obtain⟨v,g1,g2,g3⟩:=c6 _ _ (h4 i c hc);exact⟨v,aW c1 g1,g2,g3⟩
      ·obtain⟨v,g1,g2,g3⟩:=c6 _ _ h2;exact .inr ⟨h1,v,aW c1 g1,g3⟩
     obtain⟨v,h1,h2⟩:=key;exact⟨v,w,by simp[execOp,ho,hv,h1],.inl rfl,h2⟩
    split at h
    ·rename_i tt a xs hc;obtain⟨h0,h2⟩:=and_true h;clear h;obtain⟨h1,h⟩:=and_true h2;clear h2;obtain rfl:ag=false:=by simpa using h0
     have h1:=afp h1;refine⟨_,_,_,aS (λG w ρ L a o' ho hs hops hT=>?_),h⟩;have hx:=hops x (by simp[Op.operands]); rw[e]at hx;obtain⟨pl,hp,hv⟩:=hx.ptr_inv;have hL:L n=some blk:=by rw[hT n (by simp),hM]
     obtain⟨b,cur,c1,c2,c3⟩:=hs.subp hL hc hp h1;obtain⟨r,h1,h2⟩:=jA (P:=cx.P) (w:=w) (ρ:=ρ) (ok:=okc G ρ L) (b:=pl.b) (o:=p) (z:=.opt n p 0) hag hsz (.inr ⟨rfl,_,aW c1 c3,.opt n p 0 b pl hp c2⟩);exact⟨r,w,by simp[execOp,ho,hv,h1],.inl rfl,h2⟩
    ·cases ag
     ·simp only[afk]at h;obtain⟨z,hz,hk⟩:=Body.get_sound h;exact⟨_,_,_,main z (.inr ⟨rfl,hz⟩),hk⟩
     ·simp only[afl]at h;obtain⟨zs,hl,hz,hk⟩:=Body.part_sound h;exact⟨_,_,_,main _ (.inl ⟨rfl,zs,rfl,hl,hz⟩),hk⟩
   ·cases h
  ·rename_i n j i e;split at h
   ·rename_i e0 sz tt at' xs hM;have main:∀ z,((ag=true/\i+s<=at'.sz/\z=.agg (((at'.cells (xs.getD j at'.dflt)).drop i).take s))\/(ag=false/\(at'.cells (xs.getD j at'.dflt))[i]? = some z))->bG cx.P base F M (.load t x) z [] [n]:=by
     intro z hz;refine aS (λG w ρ L a o' ho hs hops hT=>?_);have hx:=hops x (by simp[Op.operands]); rw[e]at hx;obtain⟨pl,b,hp,hb,hv⟩:=hx.opt_inv;have hL:L n=some ⟨e0,sz,.own tt at' xs []⟩:=by rw[hT n (by simp),hM]
     obtain⟨y,cur,c0,c1,c2,c3⟩:=hs.sub hL rfl hp hb (by simp);rw[List.getD_eq_getElem?_getD,c0,af8]at hz;have key:∃ v,(Instr.loadAt t (.pointer (some ⟨b,i,none⟩))).run cx.P w=.ok v w/\Rep (okc G ρ L) w ρ z v:=by
      refine jA hag hsz ?_;rcases hz with⟨h1,h2,h3⟩ | ⟨h1,h2⟩
      ·refine .inl ⟨h1,_,h3,by rw[af0,agZ,at'.cells_length]; omega,λk c hc=>?_⟩;simp only[List.getElem?_take,List.getElem?_drop]at hc;split at hc
       ·obtain⟨v,g1,g2,g3⟩:=c3 (i+k) c hc;exact⟨v,aW c1 g1,g2,g3⟩
       ·cases hc
      ·obtain⟨v,g1,g2,g3⟩:=c3 i z h2;exact .inr ⟨h1,v,aW c1 g1,g3⟩
     obtain⟨v,h1,h2⟩:=key;exact⟨v,w,by simp[execOp,ho,hv,h1],.inl rfl,h2⟩
    cases ag
    ·simp only[afk]at h;split at h
     ·rename_i z hz; exact⟨_,_,_,main z (.inr ⟨rfl,hz⟩),h⟩
     ·cases h
    ·simp only[afl]at h;obtain⟨h0,h⟩:=and_true h;exact⟨_,_,_,main _ (.inl ⟨rfl,afp h0,rfl⟩),h⟩
   ·cases h
  ·rename_i xs i e;obtain⟨h0,h⟩:=and_true h;obtain rfl:ag=false:=by simpa using h0
   refine⟨_,_,_,aS (λG w ρ L a o' ho hs hops hT=>?_),h⟩;have hx:=hops x (by simp[Op.operands]); rw[e]at hx;generalize hv:a.eval x=v at hx;cases hx with
   | pf xs i b o u hc hf hok hb=>
    obtain⟨r,h1,h2⟩:=jA (P:=cx.P) (w:=w) (ρ:=ρ) (ok:=okc G ρ L) (b:=b) (o:=o) (z:=.flt (xs.getD i none)) hag hsz (.inr ⟨rfl,u,hc,.flt _ _ hf⟩);exact⟨r,w,by simp[execOp,ho,hv,h1],.inl rfl,h2⟩
  ·rename_i q xs i e;obtain⟨h0,h⟩:=and_true h;obtain rfl:ag=false:=by simpa using h0
   refine⟨_,_,_,aS (λG w ρ L a o' ho hs hops hT=>?_),h⟩;have hx:=hops x (by simp[Op.operands]); rw[e]at hx;generalize hv:a.eval x=v at hx;cases hx with
   | pi q xs i b o hc hok hb=>
    obtain⟨r,h1,h2⟩:=jA (P:=cx.P) (w:=w) (ρ:=ρ) (ok:=okc G ρ L) (b:=b) (o:=o) (z:=.int q (xs.getD i 0)) hag hsz (.inr ⟨rfl,_,hc,.int _ _⟩);exact⟨r,w,by simp[execOp,ho,hv,h1],.inl rfl,h2⟩
  ·rename_i cs i e;have main:∀ z,((ag=true/\i+s<=cs.length/\z=.agg ((cs.drop i).take s))\/(ag=false/\cs[i]? = some z))->bG cx.P base F M (.load t x) z [] []:=by
    intro z hz;refine aS (λG w ρ L a o' ho hs hops hT=>?_);have hx:=hops x (by simp[Op.operands]); rw[e]at hx;obtain⟨b,o,g,hv,hok,hb,hc,hone,hr⟩:=hx.rp_inv;have key:∃ v,(Instr.loadAt t (.pointer (some ⟨b,o,none⟩))).run cx.P w=.ok v w/\Rep (okc G ρ L) w ρ z v:=by
     refine jA hag hsz ?_;rcases hz with⟨h1,h2,h3⟩ | ⟨h1,h2⟩
     ·refine .inl ⟨h1,_,h3,by simp; omega,λj c hcj=>?_⟩;simp only[List.getElem?_take,List.getElem?_drop]at hcj;split at hcj
      ·rename_i hj;exact⟨g (i+j),hc j (by omega),hone _ (by omega),hr _ _ hcj⟩
      ·cases hcj
     ·have hlt:=(List.getElem?_eq_some_iff.1 h2).1;exact .inr ⟨h1,g i,by simpa using hc 0 (by omega),hr _ _ h2⟩
    obtain⟨v,h1,h2⟩:=key;exact⟨v,w,by simp[execOp,ho,hv,h1],.inl rfl,h2⟩
   cases ag
   ·simp only[afk]at h;split at h
    ·rename_i z hz; exact⟨_,_,_,main z (.inr ⟨rfl,hz⟩),h⟩
    ·cases h
   ·simp only[afl]at h;obtain⟨h0,h⟩:=and_true h;exact⟨_,_,_,main _ (.inl ⟨rfl,afp h0,rfl⟩),h⟩
  ·cases h
 ·cases h
end
def RepL (ok:Nat->Prop) (w:World) (ρ:Rho) (cs:List V) (us:List Value):Prop:=cs.length=us.length /\ ∀(i:Nat) c u,cs[i]? = some c->us[i]? = some u->Rep ok w ρ c u
theorem RepL.mono {ok ok':Nat->Prop} {w w':World} {ρ ρ':Rho} (hk:Keeps ok w ρ ok' w' ρ') {cs:List V} {us:List Value} (h:RepL ok w ρ cs us):RepL ok' w' ρ' cs us:=
 ⟨h.1,λi c u hc hu=>(h.2 i c u hc hu).mono hk⟩
theorem RepL.one {ok:Nat->Prop} {w:World} {ρ:Rho} {cs:List V} {us:List Value} (h:RepL ok w ρ cs us) (h1:cs.all V.one=true):∀ u ∈ us,u.oneCell'=true:=by
 intro u hu;obtain⟨i,hi,rfl⟩:=ag2 hu;have hic:i<cs.length:=by rw[h.1]; exact hi
 exact(h.2 i cs[i] us[i] (by simp[hic]) (by simp[hi])).one (List.all_eq_true.1 h1 _ (agv hic))
theorem RepL.body {ok:Nat->Prop} {w:World} {ρ:Rho} {cs:List V} {us:List Value} (h:RepL ok w ρ cs us) (h1:cs.all V.one=true):BodyRep ok w ρ (.cells cs) us.toArray:=by
 intro i x hx;have hi:i<cs.length:=(List.getElem?_eq_some_iff.1 hx).1;have hiu:i<us.length:=by rw[<- h.1]; exact hi
 exact⟨us[i],by simp[hiu],h.one h1 _ (agv hiu),h.2 i x _ hx (by simp[hiu])⟩
theorem rj {ok:Nat->Prop} {w:World} {ρ:Rho} {x:V} {v:Value} {cs:List V} (h:tK x=some cs) (hx:Rep ok w ρ x v):RepL ok w ρ cs v.cells.toList:=by
 unfold tK at h;split at h
 ·cases h;obtain⟨us,rfl,hl,_,hr⟩:=hx.agg_inv;exact⟨hl,hr⟩
 ·cases h1:x.one with
  | false=>simp[h1]at h
  | true=>
   simp[h1]at h;subst h;have ho:=hx.one h1;have hc:v.cells = #[v]:=by cases v <;> first | rfl | (simp[Value.oneCell']at ho)
   rw[hc];refine⟨rfl,λi c u hc hu=>?_⟩;cases i with
   | zero=>simp at hc hu; subst hc; subst hu; exact hx
   | succ i=>simp at hc
theorem gN {P:Program} {t:Nat} {cs:List V} (h:cH P t=some cs):∃ i v,P.info? t=some i/\i.zero=some v/\cs=v.cells.toList.map Bj /\ ∀ ok w ρ,RepL ok w ρ cs v.cells.toList:=by
 unfold cH at h;split at h
 ·rename_i i hi;obtain⟨v,hv,rfl⟩:=Option.map_eq_some_iff.1 h;refine⟨i,v,hi,hv,rfl,λok w ρ=>⟨by simp,λj c u hc hu=>?_⟩⟩;rw[List.getElem?_map,hu]at hc;cases hc;exact vY u
 ·cases h
theorem FE {α:Type} (off:Nat):∀(vs:List α) (j:Nat) (cells:List α),(vs.zipIdx j).foldl (λcs (p:α × Nat)=>cs.setIfInBounds (off+p.2) p.1) cells.toArray=(setFrom cells (off+j) vs).toArray
 | [],_,_=>rfl
 | v::r,j,cells=>by simp only[List.zipIdx_cons,List.foldl_cons,List.setIfInBounds_toArray,FE off r,setFrom];rw[afY]
theorem DC {α:Type} (off:Nat) (vs:Array α) (cells:List α):vs.zipIdx.foldl (λcs (x:α × Nat)=>match x with | (c,j)=>cs.setIfInBounds (off+j) c) cells.toArray=(setFrom cells off vs.toList).toArray:=by have:=FE off vs.toList 0 cells;rw[afR]at this;rw[<- this,<- Array.foldl_toList,Array.toList_zipIdx]
theorem RepL.setFrom {ok:Nat->Prop} {w:World} {ρ:Rho} {cs vs:List V} {us xs:List Value} (h:RepL ok w ρ cs us) (hv:RepL ok w ρ vs xs) {off:Nat} (hle:off+vs.length<=cs.length) :
  RepL ok w ρ (setFrom cs off vs) (setFrom us off xs):=by
 refine⟨by rw[ek,ek]; exact h.1,λi c u hc hu=>?_⟩;rw[iO _ _ _ _ hle]at hc;rw[iO _ _ _ _ (by rw[<- hv.1,<- h.1]; exact hle),<- hv.1]at hu;split at hc
 ·rename_i e; rw[if_pos e]at hu; exact hv.2 _ c u hc hu
 ·rename_i e; rw[if_neg e]at hu; exact h.2 _ c u hc hu
theorem vH (place:Nat->Option (Nat × Nat)) (f:Operand->V):∀(L:List (Nat × Operand)) (cs:List V) (k:List V->Bool),Aw place cs (L.map λp=>(p.1,f p.2)) k=true ->
  ∃ cs',k cs'=true/\cs'.length=cs.length /\ ∀(ok:Nat->Prop) (w:World) (ρ:Rho) (g:Operand->Value) (us:List Value),RepL ok w ρ cs us->(∀ p,p ∈ L->Rep ok w ρ (f p.2) (g p.2)) ->
   ∃ us',Instr.fill place us.toArray (L.map λp=>(p.1,g p.2))=some us'.toArray/\RepL ok w ρ cs' us'
 | [],cs,k,h=>⟨cs,h,rfl,λok w ρ g us hr _=>⟨us,rfl,hr⟩⟩
 | (i,x)::r,cs,k,h=>by
  simp only[agl,Aw]at h;split at h
  ·rename_i off s vs hp hv;obtain⟨h0,h1⟩:=and_true h;obtain⟨h2,h3⟩:=and_true h1;have hs:vs.length=s:=by simpa using h0
   have hle:=afp h2;obtain⟨cs',hk,hl,hf⟩:=vH place f r _ k h3;refine⟨cs',hk,by rw[hl,ek],λok w ρ g us hr hops=>?_⟩;have hx:=rj hv (hops (i,x) (by simp));have hsz:(g x).cells.size=s:=by rw[<- hs,hx.1]; simp
   obtain⟨us',h4,h5⟩:=hf ok w ρ g _ (hr.setFrom hx (by rw[hs]; exact hle)) (λp hp=>hops p (by simp[hp]));refine⟨us',?_,h5⟩;simp only[agl,Instr.fill,hp];rw[if_neg (by simp[hsz]; rw[<- hr.1]; omega),DC];exact h4
  ·cases h
theorem qD {P:Program} {base:Nat} {F:List V} {M:aL} {o:Op} {x:V} {nm:Nat} {blk:Blk} (hlen:M.length<=nm)
  (h:∀(G:Gh) (w:World) (ρ:Rho) (L:LK) (a:Act) (o':Oper),o'.op=o->SimW G w ρ L->(∀ y,y ∈ o.operands->Rep (okc G ρ L) w ρ (ev F y) (a.eval y)) ->
   ∃ cur len cap v,(execOp a.eval o').run P w=.ok (.value v) (w.alloc (.cells cur blk.e (0,0)))/\cur.size=cap*blk.sz/\len*blk.sz=blk.c.size/\len<=cap/\cap<=maxLen/\BodyRep (okc G ρ L) w ρ blk.c cur /\
    ∀ ok w' ρ',ρ' nm=some (some ⟨w.heap.size,len,cap,[]⟩)->Rep ok w' ρ' x v) (hno:blk.c.isOwn=false):bG P base F M o x [(nm,some blk)] []:=by
 intro G w ρ L a o' ho hb _ hs hops _ hnew N Q hn;obtain⟨hnm,hbase⟩:=hnew nm (some blk) (by simp) hlen;obtain⟨cur,len,cap,v,hr,h1,h2,h3,h4,h5,h6⟩:=h G w ρ L a o' ho hs hops;obtain⟨s1,s2⟩:=hs.alloc nm hnm (by omega) blk cur len cap hno (ahv h1.symm) h2 h3 h4 h5;refine dY hr (hn v _ _ s1 (h6 _ _ _ (by simp[aK])) s2 ?_);intro n hne;by_cases e:n=nm
 ·simp[e]
 ·simp[aK,e]at hne
section
variable {cx:Cx} {base:Nat} {F:List V} {M:aL} {k:KOp}
theorem C3 {P:Program} {e:Nat} {cs:List V} {c:Body} (h:yd P e cs=some c):c.size=cs.length/\(∀ i,c.at i=cs[i]?)/\cs.all V.one=true:=by
 unfold yd at h;split at h
 ·obtain⟨xs,hx,rfl⟩:=Option.map_eq_some_iff.1 h;obtain rfl:=xF hx;exact⟨by simp[Body.size],λi=>by simp[Body.at],by simp[V.one]⟩
 ·obtain⟨xs,hx,rfl⟩:=Option.map_eq_some_iff.1 h;obtain rfl:=vw hx;exact⟨by simp[Body.size],λi=>by simp[Body.at],by simp[V.one]⟩
 ·cases h1:cs.all V.one with
  | false=>simp[h1]at h
  | true=>simp[h1]at h; subst h; exact⟨rfl,λi=>rfl,rfl⟩
 ·cases h
theorem Be {P:Program} {e:Nat} {cs:List V} {c:Body} (h:yd P e cs=some c):c.isOwn=false:=by
 unfold yd at h;split at h
 ·obtain⟨xs,hx,rfl⟩:=Option.map_eq_some_iff.1 h; rfl
 ·obtain⟨xs,hx,rfl⟩:=Option.map_eq_some_iff.1 h; rfl
 ·cases h1:cs.all V.one with
  | false=>simp[h1]at h
  | true=>simp[h1]at h; subst h; rfl
 ·cases h
theorem BodyRep.of_at {ok:Nat->Prop} {w:World} {ρ:Rho} {c c':Body} {cur:Array Value} (h:∀ i,c.at i=c'.at i) (hb:BodyRep ok w ρ c' cur):BodyRep ok w ρ c cur:=
 λi x hx=>hb i x (by rw[<- h i]; exact hx)
theorem qt (P:Program) (t:Nat) (cs:List V):(qs P t cs).size=cs.length /\ ∀ i,(qs P t cs).at i=(Body.cells cs).at i:=by
 unfold qs;split
 ·split
  ·rename_i c hc;obtain⟨h1,h2,-⟩:=C3 hc;exact⟨h1,h2⟩
  ·exact⟨rfl,λ_=>rfl⟩
 ·exact⟨rfl,λ_=>rfl⟩
theorem yC (P:Program) (t:Nat) (cs:List V):(qs P t cs).isOwn=false:=by
 unfold qs;split
 ·split
  ·rename_i c hc; exact Be hc
  ·rfl
 ·rfl
theorem GQ {t:TypeId} (h:opV cx base F M (.alloc t) k=true):∃ z U T,bG cx.P base F M (.alloc t) z U T/\k z U T=true:=by
 simp only[opV]at h;split at h
 ·rename_i cs hz;obtain⟨h0,h1⟩:=and_true h;obtain⟨h2,h3⟩:=and_true h1;have hlen:=afp h0;obtain⟨i,v,hi,hv,_,hrep⟩:=gN hz;refine⟨_,_,_,qD (afw _) (λG w ρ L a o' ho hs hops=>?_) (yC _ _ _),h3⟩;have hr:=hrep (okc G ρ L) w ρ;refine⟨v.cells,cs.length,cs.length,.pointer (some ⟨w.heap.size,0,none⟩),?_,?_,?_,afw _,?_,?_,?_⟩
  ·simp[execOp,ho,Instr.alloc,zeroValue,typeInfo,hi,hv,newVar,newRow]
  ·have:=hr.1; simp at this ⊢; exact this.symm
  ·simp[(qt _ _ _).1]
  ·unfold maxLen; omega
  ·have:=hr.body h2; exact BodyRep.of_at (qt _ _ _).2 (by simpa using this)
  ·intro ok w' ρ' hp; exact .ptr _ 0 _ hp
 ·cases h
theorem Ms {t:TypeId} {x:Operand} (h:opV cx base F M (.box t x) k=true):∃ z U T,bG cx.P base F M (.box t x) z U T/\k z U T=true:=by
 simp only[opV]at h;split at h
 ·rename_i cs hz;obtain⟨h0,h1⟩:=and_true h;obtain⟨h2,h3⟩:=and_true h1;have hlen:=afp h0;refine⟨_,_,_,qD (afw _) (λG w ρ L a o' ho hs hops=>?_) (yC _ _ _),h3⟩;have hr:=rj hz (hops x (by simp[Op.operands]));refine⟨(a.eval x).cells,cs.length,cs.length,.pointer (some ⟨w.heap.size,0,none⟩),?_,?_,?_,afw _,?_,?_,?_⟩
  ·simp[execOp,ho,Instr.box,newVar,newRow]
  ·have:=hr.1; simp at this ⊢; exact this.symm
  ·simp[(qt _ _ _).1]
  ·unfold maxLen; omega
  ·have:=hr.body h2; exact BodyRep.of_at (qt _ _ _).2 (by simpa using this)
  ·intro ok w' ρ' hp; exact .ptr _ 0 _ hp
 ·cases h
theorem IC {P:Program} {fs:List Field} {pl:List (Nat × Nat)} (h:places P fs=some pl):fs.mapM (λf=>(P.info? f.type).map λi=>(f.offset,i.size))=some pl:=by unfold places iP at h;simpa [aiq,Function.comp_def]using h
theorem GS {t:TypeId} {parts:Array (Nat × Operand)} (h:opV cx base F M (.build t parts) k=true):∃ z U T,bG cx.P base F M (.build t parts) z U T/\k z U T=true:=by
 simp only[opV]at h;have fin:∀(pl:Nat->Option (Nat × Nat)) (z:List V),cH cx.P t=some z->(∀ v (rs:List (Nat × Value)),(∃ i,cx.P.info? t=some i/\i.zero=some v)->cx.P.built t rs=Instr.fill pl v.cells rs) ->
   Aw pl z (parts.toList.map λp=>(p.1,ev F p.2)) (λcs=>cs.all V.one&&k (.agg cs) [] [])=true -> ∃ z U T,bG cx.P base F M (.build t parts) z U T/\k z U T=true:=by
  intro pl z hz hb hf;obtain⟨i,v,hi,hv,_,hrep⟩:=gN hz;obtain⟨cs',hk,_,hfill⟩:=vH pl (ev F) parts.toList z _ hf;obtain⟨h1,h2⟩:=and_true hk;refine⟨_,_,_,aS (λG w ρ L a o' ho hs hops _=>?_),h2⟩;obtain⟨us',hu,hr⟩:=hfill (okc G ρ L) w ρ a.eval v.cells.toList (hrep _ _ _) (λp hp=>hops p.2 (by simp only[Op.operands];exact Array.mem_def.2 (by simpa using ⟨p.1,by simpa using hp⟩)))
  refine⟨.agg us'.toArray,w,?_,.inl rfl,.agg _ _ hr.1 (hr.one h1) hr.2⟩;have hbuilt:cx.P.built t (parts.map λ(i,x)=>(i,a.eval x)).toList=some us'.toArray:=by rw[hb v _ ⟨i,hi,hv⟩];rw[<- hu];simp
  simp[execOp,ho,run_build w t _ _ hbuilt]
 split at h
 ·rename_i z fs hz hu;split at h
  ·rename_i pl hp;refine fin _ z hz ?_ h;rintro v rs ⟨i,hi,hv⟩;simp[Program.built,hi,hu,hv,IC hp]
  ·cases h
 ·rename_i z n e hz hu;split at h
  ·rename_i s hs;refine fin _ z hz ?_ h;rintro v rs ⟨i,hi,hv⟩;obtain⟨j,hj,rfl⟩:=uE hs;simp only[Program.built,hi,hu,hv,hj];congr 1;funext i;rw[aQ]
  ·cases h
 ·cases h
theorem mO {α:Type}:∀(n:Nat) (z:List α) (i:Nat),0<z.length->i<n*z.length->((List.replicate n z).flatten)[i]? = z[i%z.length]?
 | 0,z,i,h0,h=>by simp at h
 | n+1,z,i,h0,h=>by
  rw[af5,ahl,List.getElem?_append];split
  ·rename_i hi; rw[afu hi]
  ·rename_i hi;have hn:i - z.length<n*z.length:=by rw[afM]at h; omega
   rw[mO n z _ h0 hn];congr 1
   conv=>rhs; rw[show i=(i - z.length)+z.length from by omega,Nat.add_mod_right]
theorem MG {ok:Nat->Prop} {w:World} {ρ:Rho} {z:List V} {u:Array Value} (n s:Nat) (h:RepL ok w ρ z u.toList) (hs:z.length=s) (h0:¬ s=0) :
  RepL ok w ρ ((List.replicate n z).flatten) ((Array.range (n*s)).map (u[· % u.size]!)).toList:=by
 have hus:u.size=s:=by have:=h.1; simp at this; omega
 refine⟨by simp[hs],λi c x hc hx=>?_⟩;have hi:i<n*s:=by have:=(List.getElem?_eq_some_iff.1 hc).1; simp[hs]at this; exact this
 rw[mO n z i (by omega) (by rw[hs]; exact hi),hs]at hc;have hm:i%s<u.size:=by rw[hus]; exact afA _ (by omega)
 refine h.2 (i%s) c x hc ?_;simp[hi,hus]at hx;rw[<- hx];simp[hm]
theorem yn {t:TypeId} {len:Nat} {parts:Array (Nat × Operand)} (h:opV cx base F M (.buildSlice t len parts) k=true):∃ z U T,bG cx.P base F M (.buildSlice t len parts) z U T/\k z U T=true:=by
 simp only[opV]at h;split at h
 ·rename_i e he;split at h
  ·rename_i s z hs hz;obtain⟨h0,h1⟩:=and_true h;obtain⟨h2,h3⟩:=and_true h1;obtain⟨h4,h5⟩:=and_true h3;have hle:=afp h0;have hzl:z.length=s:=by simpa using h2
   have hs0:¬ s=0:=by simpa using h4
   obtain⟨i,v,hi,hv,_,hrep⟩:=gN hz;obtain⟨cs',hk,hl,hfill⟩:=vH _ (ev F) parts.toList _ _ h5;have ht:=oH he;split at hk
   ·rename_i c hc;obtain⟨c1,c2,c3⟩:=C3 hc;have hl':cs'.length=len*s:=by rw[hl]; simp[hzl]
    refine⟨_,_,_,qD (afw _) (λG w ρ L a o' ho hs' hops=>?_) (Be hc),hk⟩;obtain⟨us',hu,hr⟩:=hfill (okc G ρ L) w ρ a.eval _ (MG len s (hrep (okc G ρ L) w ρ) hzl hs0) (λp hp=>hops p.2 (by simp only[Op.operands];exact Array.mem_def.2 (by simpa using ⟨p.1,by simpa using hp⟩)))
    refine⟨us'.toArray,len,len,.slice (some ⟨w.heap.size,0,none⟩) len len,?_,?_,?_,afw _,?_,?_,?_⟩
    ·have hfill':Instr.fill (λi=>some (i*s,s)) ((Array.range (len*s)).map (v.cells[· % v.cells.size]!)) (parts.map λ(i,x)=>(i,a.eval x)).toList=some us'.toArray:=by rw[<- hu,Array.toArray_toList,Array.toList_map];simp only[aQ]
     have hrun:(Instr.buildSlice t len (parts.map λ(i,x)=>(i,a.eval x))).run cx.P w=.ok (.slice (some ⟨w.heap.size,0,none⟩) len len) (w.alloc (.cells us'.toArray e (0,0))):=by
      have hng:¬(len*s>2 ^ 24):=by omega
      by_cases hn:len*s=0
      ·have hz0:(Array.range (len*s)).map (v.cells[· % v.cells.size]!)=(Array.range (len*s)).map ((#[]:Array Value)[· % (#[]:Array Value).size]!):=by rw[hn]; apply ahq; simp
       rw[hz0]at hfill';simp only[Instr.buildSlice,Sem.run_bind,run_underlying ht,Result.andThen_ok,eu hs,if_neg hng,if_pos hn,Sem.run_pure,hfill',newRow,run_newObj];rfl
      ·simp only[Instr.buildSlice,Sem.run_bind,run_underlying ht,Result.andThen_ok,eu hs,if_neg hng,if_neg hn,Sem.run_pure,zeroValue,typeInfo,run_program,hi,hv,hfill',newRow,run_newObj];rfl
     simp only[execOp,ho,Sem.run_bind,hrun,Result.andThen_ok,Sem.run_pure]
    ·have:=hr.1; simp; omega
    ·rw[c1,hl']
    ·have:len<=len*s:=agj _ (by omega);unfold maxLen; omega
    ·exact BodyRep.of_at (c':=.cells cs') (λi=>c2 i) (hr.body c3)
    ·intro ok w' ρ' hp; exact .slw _ _ hp
   ·cases hk
  ·cases h
 ·cases h
end
theorem rh {α:Type} (cur vs:List α) (o i:Nat) (h:o+vs.length<=cur.length):(cur.take o++vs++cur.drop (o+vs.length))[i]? = if o<=i/\i<o+vs.length then vs[i - o]? else cur[i]?:=by
 rw[afC,List.getElem?_append];simp only[af0,agz (show o<=cur.length by omega)];by_cases h1:i<o
 ·rw[if_pos h1,if_neg (by omega),List.getElem?_take,if_pos h1]
 ·rw[if_neg h1,List.getElem?_append];by_cases h2:i - o<vs.length
  ·rw[if_pos h2,if_pos (by omega)]
  ·rw[if_neg h2,if_neg (by omega),List.getElem?_drop];congr 1; omega
section
variable {cx:Cx} {base:Nat} {F:List V} {M:aL} {k:KOp}
theorem AD {P:Program} {t s:TypeId} {x y:Operand} {n p:Nat} {blk:Blk} {vs:List V} {c':Body} (hM:aq M n=some blk) (hs:iP P t=some s) (ex:ev F x=.ptr n p) (hl:vs.length=s) (hvc:tK (ev F y)=some vs)
  (hone:vs.all V.one=true) (hno:blk.c.isOwn=false/\c'.isOwn=false) (hle:p+vs.length<=blk.c.size) (hc:c'.size=blk.c.size) (hat:∀ i z,c'.at i=some z->(p<=i/\i<p+vs.length /\ ∃ v,vs[i - p]? = some v/\Stands v z)\/(¬(p<=i/\i<p+vs.length)/\blk.c.at i=some z)) :
  bG P base F M (.store t x y) .any [(n,some { blk with c:=c' })] [n]:=by
 intro G w ρ L a o' ho hb _ hsim hops hT _ N Q hn;have hx:=hops x (by simp[Op.operands]); rw[ex]at hx;have hy:=hops y (by simp[Op.operands]);obtain⟨pl,hp,hv⟩:=hx.ptr_inv;have hL:L n=some blk:=by rw[hT n (by simp),hM]
 obtain⟨cur,c1,c2,c3,c4,c5,c6⟩:=hsim.place hL hp;have hrep:=rj hvc hy;have hones:=hrep.one hone;have hfit:p+(a.eval y).cells.toList.length<=cur.size:=by
  rw[<- hrep.1];have:blk.c.size<=cur.size:=by rw[<- c3]; exact afG (afm _ c4) c2
  omega
 have hst:=run_storeCells_at P pl.b p blk.e (a.eval y).cells.toList 0 cur w c1 (by simpa using hfit) hones;simp only[afR]at hst;have hsz:(a.eval y).cells.size=s:=by rw[<- hl,hrep.1]; simp
 have hrun:(Instr.storeAt t (a.eval x) (a.eval y)).run P w=.ok () (w.setRow pl.b (cur.toList.take p++(a.eval y).cells.toList++cur.toList.drop (p+(a.eval y).cells.toList.length)).toArray):=by rw[hv];simp only[Instr.storeAt,Instr.sureAddr,Sem.run_bind,Sem.run_pure,Result.andThen_ok,storeVar,eu hs,hsz,ne_eq,not_true_eq_false,afS,hst]
 have hlen:p+(a.eval y).cells.toList.length<=cur.toList.length:=by simpa using hfit
 obtain⟨s1,s2⟩:=hsim.write n blk pl hL hp cur (cur.toList.take p++(a.eval y).cells.toList++cur.toList.drop (p+(a.eval y).cells.toList.length)).toArray c1 c' hno.1 hno.2 (by
  simp only[agw,agy,af0,agZ,ahH]at hlen ⊢; omega) hc (by
  intro i z hz;have hg:(cur.toList.take p++(a.eval y).cells.toList++cur.toList.drop (p+(a.eval y).cells.toList.length)).toArray[i]? = if p<=i/\i<p+(a.eval y).cells.toList.length then(a.eval y).cells.toList[i - p]? else cur.toList[i]?:=by rw[List.getElem?_toArray]; exact rh _ _ _ _ hlen
  rcases hat i z hz with⟨g1,g2,c0,g3,g4⟩ | ⟨g1,g2⟩
  ·rw[hrep.1]at g2;have hi:i - p<(a.eval y).cells.toList.length:=by omega
   refine⟨(a.eval y).cells.toList[i - p],?_,hones _ (agv hi),g4 _ _ _ _ (hrep.2 _ c0 _ g3 (by simp only[List.getElem?_eq_getElem hi]))⟩;rw[hg,if_pos ⟨g1,g2⟩,List.getElem?_eq_getElem hi]
  ·rw[hrep.1]at g1;obtain⟨v,v1,v2,v3⟩:=c6 i z g2;refine⟨v,?_,v2,v3⟩;rw[hg,if_neg g1]; simpa using v1)
 unfold Oper.wp;simp only[execOp,ho,Sem.run_bind,hrun,Result.andThen_ok,Sem.run_pure,Oper.upon_skip];exact hn undef _ ρ s1 (.any _) s2 (λm hm=>absurd rfl hm)
theorem yR {P:Program} {t s:TypeId} {x y:Operand} {n j o t' sz tt:Nat} {a:RT} {xs:List a.Ty} {x':a.Ty} {vs:List V} (hM:aq M n=some ⟨t',sz,.own tt a xs []⟩) (hs:iP P t=some s) (ex:ev F x=.opt n j o) (hl:vs.length=s) (hvc:tK (ev F y)=some vs)
  (hone:vs.all V.one=true) (hle:o+vs.length<=a.sz) (hpr:a.parse (setFrom (a.cells (xs.getD j a.dflt)) o vs)=some (x',[])) :
  bG P base F M (.store t x y) .any [(n,some ⟨t',sz,.own tt a (xs.set j x') []⟩)] [n]:=by
 intro G w ρ L act o' ho hb _ hsim hops hT _ N Q hn;have hx:=hops x (by simp[Op.operands]); rw[ex]at hx;have hy:=hops y (by simp[Op.operands]);obtain⟨pl,b,hp,hbs,hv⟩:=hx.opt_inv;have hL:L n=some ⟨t',sz,.own tt a xs []⟩:=by rw[hT n (by simp),hM]
 obtain⟨y0,cur,c0,c1,c2,c6⟩:=hsim.sub hL rfl hp hbs (by simp);rw[List.getD_eq_getElem?_getD,c0,af8]at hpr;have hrep:=rj hvc hy;have hones:∀ u ∈ (act.eval y).cells.toList,u.oneCell'=true:=hrep.one hone;have hle':=hle;rw[hrep.1]at hle';have hfit:o+(act.eval y).cells.toList.length<=cur.size:=by omega
 have hst:=run_storeCells_at P b o tt (act.eval y).cells.toList 0 cur w c1 (by simpa using hfit) hones;simp only[afR]at hst;have hsz:(act.eval y).cells.size=s:=by rw[<- hl,hrep.1]; simp
 have hrun:(Instr.storeAt t (act.eval x) (act.eval y)).run P w=.ok () (w.setRow b (cur.toList.take o++(act.eval y).cells.toList++cur.toList.drop (o+(act.eval y).cells.toList.length)).toArray):=by rw[hv];simp only[Instr.storeAt,Instr.sureAddr,Sem.run_bind,Sem.run_pure,Result.andThen_ok,storeVar,eu hs,hsz,ne_eq,not_true_eq_false,afS,hst]
 have hlen:o+(act.eval y).cells.toList.length<=cur.toList.length:=by simpa using hfit
 obtain⟨s1,s2⟩:=hsim.write' n _ pl hL hp b (.inr ⟨j,hbs,by simp[Body.holes]⟩) (cur.toList.take o++(act.eval y).cells.toList++cur.toList.drop (o+(act.eval y).cells.toList.length)).toArray (.own tt a (xs.set j x') []) rfl (λhk=>by
  obtain⟨q,hq,hbb⟩:=hsim.blks n _ hL;rw[hp]at hq; cases hq;obtain⟨cr,g1,g2,g3,g4,g5,g6,k1,k2,k3,k4⟩:=hbb;have hjl:j<xs.length:=(List.getElem?_eq_some_iff.1 c0).1;have hne:pl.b ≠ b:=λe=>k2 (e ▸ List.mem_of_getElem? hbs)
  refine⟨cr,(setRow_other w b pl.b _ hne).trans g1,g2,by simpa [Body.size]using g3,g4,g5,?_,by simpa using k1,k2,k3,?_⟩
  ·intro i z hz;simp only[Body.at,afQ]at hz;obtain⟨z',hz',rfl⟩:=hz;have hi:i<xs.length:=by simpa using (List.getElem?_eq_some_iff.1 hz').1
   obtain⟨v,v1,v2,v3⟩:=g6 i .any (by simp[Body.at,hi]);exact⟨v,v1,v2,.any _⟩
  ·intro i x hx;have hi:i<xs.length:=by simpa using (List.getElem?_eq_some_iff.1 hx).1
   obtain⟨b',b1,b2,b3⟩:=k4 i xs[i] (List.getElem?_eq_getElem hi);refine⟨b',b1,b2,λ_=>?_⟩;by_cases e:i=j
   ·subst e;rw[hbs]at b1; cases b1;rw[List.getElem?_set_self hjl]at hx; cases hx;refine⟨_,setRow_heap w b cur _ _ _ c1,?_,?_⟩
    ·simp only[agw,agy,af0,agZ,ahH]at hlen ⊢; omega
    ·obtain⟨p1,p2⟩:=RT.parse_sound a _ _ _ hpr;intro q z hz;have hz':(a.cells x')[q]? = some z:=hz;obtain⟨c,hc,hstd⟩:=p2 q z (by rw[afU]; exact hz');have hslen:o+vs.length<=(a.cells y0).length:=by rw[a.cells_length]; exact hle
     rw[iO _ _ _ _ hslen]at hc;have hg:(cur.toList.take o++(act.eval y).cells.toList++cur.toList.drop (o+(act.eval y).cells.toList.length)).toArray[q]? = if o<=q/\q<o+(act.eval y).cells.toList.length then(act.eval y).cells.toList[q - o]? else cur.toList[q]?:=by rw[List.getElem?_toArray]; exact rh _ _ _ _ hlen
     by_cases hq:o<=q/\q<o+vs.length
     ·rw[if_pos hq]at hc;rw[hrep.1]at hq;have hqi:q - o<(act.eval y).cells.toList.length:=by omega
      refine⟨(act.eval y).cells.toList[q - o],?_,hones _ (agv hqi),(hstd _ _ _ _ (hrep.2 _ c _ hc (by simp only[List.getElem?_eq_getElem hqi]))).mono hk⟩;rw[hg,if_pos hq,List.getElem?_eq_getElem hqi]
     ·rw[if_neg hq]at hc;rw[hrep.1]at hq;obtain⟨v,v1,v2,v3⟩:=c6 q c hc;refine⟨v,?_,v2,(hstd _ _ _ _ v3).mono hk⟩;rw[hg,if_neg hq]; simpa using v1
   ·rw[List.getElem?_set_ne (λh=>e h.symm),List.getElem?_eq_getElem hi]at hx;cases hx;obtain⟨cur',d1,d2,d3⟩:=b3 (by simp);have hbb':b' ≠ b:=λh=>by
     subst h;have:=(List.getElem?_eq_some_iff.1 b1)
     obtain⟨l1,e1⟩:=this;obtain⟨l2,e2⟩:=List.getElem?_eq_some_iff.1 hbs;exact e ((List.getElem_inj k3).1 (e1.trans e2.symm))
    exact⟨cur',(setRow_other w b b' _ hbb').trans d1,d2,d3.mono hk⟩)
 unfold Oper.wp;simp only[execOp,ho,Sem.run_bind,hrun,Result.andThen_ok,Sem.run_pure,Oper.upon_skip];exact hn undef _ ρ s1 (.any _) s2 (λm hm=>absurd rfl hm)
theorem GX {t:TypeId} {x y:Operand} (h:opV cx base F M (.store t x y) k=true):∃ z U T,bG cx.P base F M (.store t x y) z U T/\k z U T=true:=by
 simp only[opV]at h;split at h
 ·rename_i s n p vs hs ex ey;split at h
  ·rename_i blk hM;obtain⟨h0,h1⟩:=and_true h;have hl:vs.length=s:=by simpa using h0
   obtain⟨c',hoo,hk,g1,g2,g3,g4⟩:=Body.setPart_sound h1;exact⟨_,_,_,AD hM hs ex hl (by rw[ey]; rfl) g3 hoo g2 g1 g4,hk⟩
  ·cases h
 ·rename_i s n p hs ex hno;split at h
  ·rename_i blk hM;obtain⟨h0,h1⟩:=and_true h;obtain⟨h2,h3⟩:=and_true h1;have hl:s=1:=by simpa using h0
   obtain⟨c',hoo,hk,g1,g2,g3,g4⟩:=Body.set_sound h3;refine⟨_,_,_,AD (vs:=[ev F y]) hM hs ex (by simp[hl]) ?_ (by simp[g3]) hoo (by simp only[afW,ahu]; omega) g1 ?_,hk⟩
   ·unfold tK;split
    ·rename_i cs e; rw[e]at g3; simp[V.one]at g3
    ·simp[g3]
   ·intro i z hz;rcases g4 i z hz with⟨rfl,hst⟩ | ⟨e,hz⟩
    ·exact .inl ⟨afw _,by simp,_,by simp,hst⟩
    ·exact .inr ⟨by simp; omega,hz⟩
  ·cases h
 ·rename_i s n j o vs hs ex ey;split at h
  ·rename_i t' sz tt at' xs hM;obtain⟨h0,h1⟩:=and_true h;obtain⟨h2,h3⟩:=and_true h1;obtain⟨h4,h5⟩:=and_true h3;have hl:vs.length=s:=by simpa using h0
   split at h5
   ·rename_i x' hp;exact⟨_,_,_,yR hM hs ex hl (by rw[ey]; rfl) h2 (by rw[hl]; exact afp h4) hp,h5⟩
   ·cases h5
  ·cases h
 ·rename_i s n j o hs ex hno;split at h
  ·rename_i t' sz tt at' xs hM;obtain⟨h0,h1⟩:=and_true h;obtain⟨h2,h3⟩:=and_true h1;obtain⟨h4,h5⟩:=and_true h3;have hl:s=1:=by simpa using h0
   have h4:=afp h4;split at h5
   ·rename_i x' hp;refine⟨_,_,_,yR (vs:=[ev F y]) hM hs ex (by simp[hl]) ?_ (by simp[h2]) (by simp only[afW,ahu]; omega) (by simpa [setFrom]using hp),h5⟩;unfold tK;split
    ·rename_i cs e; rw[e]at h2; simp[V.one]at h2
    ·simp[h2]
   ·cases h5
  ·cases h
 ·cases h
theorem EF {P:Program} {e n:Nat} {c:Body} (h:jH P e n=some c):c.isOwn=false:=by
 unfold jH at h;split at h
 ·cases h; rfl
 ·rename_i k k' x _ _;cases hk:decide (k'=k)with
  | false=>rw[hk]at h; cases h
  | true=>rw[hk]at h; cases h; rfl
 ·cases h; rfl
 ·cases h
theorem xw {P:Program} {e n:Nat} {z:List V} {c:Body} (hz:cH P e=some z) (h:jH P e n=some c):c.size=((List.replicate n z).flatten).length /\ ∀ i,c.at i=((List.replicate n z).flatten)[i]?:=by
 have fl:∀{α:Type} (x:α) (f:α->V) (m:Nat),(List.replicate m [f x]).flatten=(List.replicate m x).map f:=by
  intro α x f m;induction m with
  | zero=>rfl
  | succ m ih=>rw[af5,ahl,ih,af5]; rfl
 unfold jH at h;rw[hz]at h;split at h
 ·rename_i x e1 e2;cases h; cases e2;rw[fl x V.flt n];exact⟨by simp[Body.size],λi=>by simp only[Body.at,List.getElem?_map]⟩
 ·rename_i q q' x e1 e2;cases e2;by_cases e:q'=q
  ·subst e;simp at h; subst h;rw[fl x (V.int q') n];exact⟨by simp[Body.size],λi=>by simp only[Body.at,List.getElem?_map]⟩
  ·simp[e]at h
 ·rename_i e1 e2;cases h; cases e2;exact⟨rfl,λi=>rfl⟩
 ·cases h
theorem qu {P:Program} {t s:Nat} (h:bytesOf P t=some s):∃ i,P.info? t=some i/\i.bytes=s:=by unfold bytesOf at h;obtain⟨i,hi,rfl⟩:=Option.map_eq_some_iff.1 h;exact⟨i,hi,rfl⟩
theorem zH {t:TypeId} {l c:Operand} (h:opV cx base F M (.makeSlice t l c) k=true):∃ z U T,bG cx.P base F M (.makeSlice t l c) z U T/\k z U T=true:=by
 simp only[opV]at h;split at h
 ·rename_i e he;split at h
  ·rename_i s by' hs hby;split at h
   ·rename_i ql l' qc c' el ec;obtain⟨h0,h1⟩:=and_true h;obtain⟨h2,h3⟩:=and_true h1;have hb:=afp h0;split at h2
    ·rename_i z hz;obtain⟨h2a,h2b⟩:=and_true h2;have hzl:z.length=s:=by simpa using h2a
     split at h3
     ·rename_i body hbody;obtain⟨b1,b2⟩:=xw hz hbody;obtain⟨i,v,hi,hv,_,hrep⟩:=gN hz;obtain⟨i2,hi2,hsz⟩:=uE hs;rw[hi]at hi2; cases hi2;obtain⟨i3,hi3,hbz⟩:=qu hby;rw[hi]at hi3; cases hi3;refine⟨_,_,_,qD (afw _) (λG w ρ L a o' ho hs' hops=>?_) (EF hbody),h3⟩;have hl:=hops l (by simp[Op.operands]); rw[el]at hl;have hc:=hops c (by simp[Op.operands]); rw[ec]at hc;have hrun:=run_make (P:=cx.P) w t e i v (oH he) hi hv ql qc l' c' hb.1 hb.2.1 (by rw[hbz]; omega) hb.2.2.1;refine⟨madeCells v.cells (c'.toNat*i.size),l'.toNat,c'.toNat,.slice (some ⟨w.heap.size,0,none⟩) l'.toNat c'.toNat,?_,?_,?_,by omega,?_,?_,?_⟩
      ·simp[execOp,ho,hl.int_inv,hc.int_inv,hrun]
      ·rw[size_madeCells,hsz]
      ·rw[b1]; simp[hzl]
      ·unfold maxLen; omega
      ·have hsub:∀ j x,body.at j=some x -> ∃ u,(madeCells v.cells (c'.toNat*i.size))[j]? = some u/\u.oneCell'=true/\Rep (okc G ρ L) w ρ x u:=by
        intro j x hx;rw[b2]at hx;have hj:j<l'.toNat*s:=by have:=(List.getElem?_eq_some_iff.1 hx).1; simp[hzl]at this; exact this
        have hs0:¬ s=0:=by intro e; simp[e]at hj
        have hjc:j<c'.toNat*s:=afD hj (afm _ (by omega));rw[mO _ _ _ (by omega) (by rw[hzl]; exact hj),hzl]at hx;have hr:=hrep (okc G ρ L) w ρ;have hvs:v.cells.size=s:=by have:=hr.1; simp at this; omega
        have hm:j%s<v.cells.size:=by rw[hvs]; exact afA _ (by omega)
        refine⟨v.cells[j%s],?_,?_,hr.2 (j%s) x _ hx (by simp[hm])⟩
        ·unfold madeCells;rw[hsz,hvs];simp[hjc,hm]
        ·have hxo:x.one=true:=List.all_eq_true.1 h2b _ (List.mem_of_getElem? hx);exact(hr.2 (j%s) x _ hx (by simp[hm])).one hxo
       exact hsub
      ·intro ok w' ρ' hp; exact .slw _ _ hp
     ·cases h3
    ·cases h2
   ·cases h
  ·cases h
 ·cases h
end
theorem iQ {F:List V} {lo hi:Option Operand} {n:Nat} {k:Nat->Nat->Bool} (h:sj F lo hi n k=true) :
  ∃ l u,l<=u/\u<=n/\k l u=true /\ ∀(P:Program) (ok:Nat->Prop) (w:World) (ρ:Rho) (g:Operand->Value) (isS:Bool) (cap:Nat),n<=cap->(∀ x,lo=some x->Rep ok w ρ (ev F x) (g x))->(∀ x,hi=some x->Rep ok w ρ (ev F x) (g x)) ->
   (Instr.sliceBounds isS n cap (lo.map g) (hi.map g) none).run P w=.ok (l,u,cap) w:=by
 unfold sj at h;split at h
 ·rename_i e1 e2;obtain rfl:=Option.map_eq_none_iff.1 e1;obtain rfl:=Option.map_eq_none_iff.1 e2;exact⟨0,n,by omega,afw _,h,λP ok w ρ g isS cap hc _ _=>by simp[Instr.sliceBounds]⟩
 ·rename_i q u e1 e2;obtain rfl:=Option.map_eq_none_iff.1 e1;obtain⟨y,rfl,hy⟩:=Option.map_eq_some_iff.1 e2;obtain⟨h0,h1⟩:=and_true h;have hb:=afp h0;refine⟨0,u.toNat,by omega,by omega,h1,λP ok w ρ g isS cap hc _ hh=>?_⟩;have:=hh y rfl; rw[hy]at this;have hle:0<=u/\u<=(cap:Int):=by omega
  simp[Instr.sliceBounds,this.int_inv,Instr.sliceBound,asIntOf,hle]
 ·rename_i q l e1 e2;obtain rfl:=Option.map_eq_none_iff.1 e2;obtain⟨y,rfl,hy⟩:=Option.map_eq_some_iff.1 e1;obtain⟨h0,h1⟩:=and_true h;have hb:=afp h0;refine⟨l.toNat,n,by omega,by omega,h1,λP ok w ρ g isS cap hc hl _=>?_⟩;have:=hl y rfl; rw[hy]at this;simp[Instr.sliceBounds,this.int_inv,Instr.sliceBound,asIntOf,hb]
 ·rename_i q l q' u e1 e2;obtain⟨y,rfl,hy⟩:=Option.map_eq_some_iff.1 e1;obtain⟨z,rfl,hz⟩:=Option.map_eq_some_iff.1 e2;obtain⟨h0,h1⟩:=and_true h;have hb:=afp h0;refine⟨l.toNat,u.toNat,by omega,by omega,h1,λP ok w ρ g isS cap hc hl hh=>?_⟩;have t1:=hl y rfl; rw[hy]at t1;have t2:=hh z rfl; rw[hz]at t2;have hle:0<=u/\u<=(cap:Int):=by omega
  have hle2:0<=l/\l<=(u.toNat:Int):=by omega
  simp only[Instr.sliceBounds,agL,t1.int_inv,t2.int_inv,Instr.sliceBound,asIntOf,Sem.run_bind,Sem.run_pure,Result.andThen_ok,Sem.run_ite,if_pos hle,if_pos hle2]
 ·cases h
section
variable {cx:Cx} {base:Nat} {F:List V} {M:aL} {k:KOp}
theorem cb {t:TypeId} {x:Operand} {lo hi:Option Operand}:(∀ y,lo=some y->y ∈ (Op.slice t x lo hi none).operands)/\(∀ y,hi=some y->y ∈ (Op.slice t x lo hi none).operands)/\x ∈ (Op.slice t x lo hi none).operands:=by
 refine⟨?_,?_,?_⟩
 ·rintro y rfl; simp[Op.operands]
 ·rintro y rfl; simp[Op.operands]
 ·simp[Op.operands]
theorem GW {t:TypeId} {x:Operand} {lo hi mx:Option Operand} (h:opV cx base F M (.slice t x lo hi mx) k=true):∃ z U T,bG cx.P base F M (.slice t x lo hi mx) z U T/\k z U T=true:=by
 cases mx with
 | some m=>simp only[opV]at h; cases h
 | none=>
 simp only[opV]at h;split at h
 ·rename_i e ht;split at h
  ·rename_i s hs;have run:∀(G:Gh) (w:World) (ρ:Rho) (L:LK) (a:Act) (o':Oper) (l u n cap:Nat) (b:Option Addr),o'.op=.slice t x lo hi none->a.eval x=.slice b n cap ->
     (Instr.sliceBounds true n cap (lo.map a.eval) (hi.map a.eval) none).run cx.P w=.ok (l,u,cap) w->(execOp a.eval o').run cx.P w=.ok (.value (.slice (if cap=l then b else b.map (·.add (l*s))) (u - l) (cap - l))) w:=by
    intro G w ρ L a o' l u n cap b ho hx hb;simp only[execOp,ho,hx,Option.map_none,Sem.run_bind,Instr.sliceAt,run_underlying ht,Result.andThen_ok,Instr.slice,hb,eu hs,Sem.run_pure]
   split at h
   ·rename_i xs ex;obtain⟨h0,h1⟩:=and_true h;obtain rfl:s=1:=by simpa using h0
    obtain⟨l,u,hlu,hun,hk,hb⟩:=iQ h1;refine⟨_,_,_,aS (λG w ρ L a o' ho hsim hops hT=>?_),hk⟩;have hx:=hops x cb.2.2; rw[ex]at hx;have hl:=λy hy=>hops y (cb.1 y hy)
    have hu:=λy hy=>hops y (cb.2.1 y hy)
    rcases hx.rof_inv with⟨rfl,ea,ecap,hv⟩ | ⟨b,o,cap,g,hv,hok,hb',hcap,hcell,hrep⟩
    ·obtain rfl:u=0:=by simp at hun; omega
     obtain rfl:l=0:=by omega
     refine⟨_,w,run G w ρ L a o' 0 0 0 ecap ea ho hv (hb _ _ _ _ _ _ _ (by simp) hl hu),.inl rfl,?_⟩;simp only[List.take_nil,List.drop_nil]; exact .rofn
    ·refine⟨_,w,run G w ρ L a o' l u _ cap _ ho hv (hb _ _ _ _ _ _ _ hcap hl hu),.inl rfl,?_⟩;have hlen:u - l=((xs.take u).drop l).length:=by simp; omega
     by_cases e:cap=l
     ·subst e;have he:(xs.take u).drop cap=[]:=afI (by rw[<- hlen]; omega);rw[if_pos rfl,he,show u - cap=([]:List Fl).length from by simp; omega];exact .rof [] b o _ g hok hb' (by simp) (by simp) (by simp)
     ·rw[if_neg e,hlen,ag9];simp only[agL,eK];refine .rof _ b (o+l) _ (λi=>g (l+i)) hok hb' (by rw[<- hlen]; omega) ?_ ?_
      ·intro i hi;rw[<- hlen]at hi;rw[afY]; exact hcell (l+i) (by omega)
      ·intro i y hy;rw[List.getElem?_drop,List.getElem?_take]at hy;split at hy
       ·exact hrep _ _ hy
       ·cases hy
   ·rename_i q xs ex;obtain⟨h0,h1⟩:=and_true h;obtain rfl:s=1:=by simpa using h0
    obtain⟨l,u,hlu,hun,hk,hb⟩:=iQ h1;refine⟨_,_,_,aS (λG w ρ L a o' ho hsim hops hT=>?_),hk⟩;have hx:=hops x cb.2.2; rw[ex]at hx;have hl:=λy hy=>hops y (cb.1 y hy)
    have hu:=λy hy=>hops y (cb.2.1 y hy)
    rcases hx.roi_inv with⟨rfl,ea,ecap,hv⟩ | ⟨b,o,cap,hv,hok,hb',hcap,hcell⟩
    ·obtain rfl:u=0:=by simp at hun; omega
     obtain rfl:l=0:=by omega
     refine⟨_,w,run G w ρ L a o' 0 0 0 ecap ea ho hv (hb _ _ _ _ _ _ _ (by simp) hl hu),.inl rfl,?_⟩;simp only[List.take_nil,List.drop_nil]; exact .roin _
    ·refine⟨_,w,run G w ρ L a o' l u _ cap _ ho hv (hb _ _ _ _ _ _ _ hcap hl hu),.inl rfl,?_⟩;have hlen:u - l=((xs.take u).drop l).length:=by simp; omega
     by_cases e:cap=l
     ·subst e;have he:(xs.take u).drop cap=[]:=afI (by rw[<- hlen]; omega);rw[if_pos rfl,he,show u - cap=([]:List Int).length from by simp; omega];exact .roi q [] b o _ hok hb' (by simp) (by simp)
     ·rw[if_neg e,hlen,ag9];simp only[agL,eK];refine .roi q _ b (o+l) _ hok hb' (by rw[<- hlen]; omega) ?_;intro i y hy;rw[List.getElem?_drop,List.getElem?_take]at hy;split at hy
      ·rw[afY]; exact hcell _ _ hy
      ·cases hy
   ·rename_i t' xs ex;obtain⟨h0,h1⟩:=and_true h;obtain⟨_,h3⟩:=and_true h1;obtain rfl:s=t'.sz:=by simpa using h0
    obtain⟨l,u,hlu,hun,hk,hb⟩:=iQ h3;refine⟨_,_,_,aS (λG w ρ L a o' ho hsim hops hT=>?_),hk⟩;have hx:=hops x cb.2.2; rw[ex]at hx;have hl:=λy hy=>hops y (cb.1 y hy)
    have hu:=λy hy=>hops y (cb.2.1 y hy)
    have hfl:=t'.flat_length xs;have hpos:=t'.sz_pos;have hcut:∀(i:Nat) c,(t'.flat ((xs.take u).drop l))[i]? = some c->(t'.flat xs)[l*t'.sz+i]? = some c/\l*t'.sz+i<u*t'.sz:=by
     intro i c hc;have hdm:=af_ i t'.sz;have hm:=afA i hpos;have hi:i=i / t'.sz*t'.sz+i%t'.sz:=by rw[afn]; exact hdm.symm
     rw[hi,t'.flat_get _ _ _ hm,List.getElem?_drop,List.getElem?_take]at hc;split at hc
     ·rename_i hlt;refine⟨?_,?_⟩
      ·rw[hi,<- afY,<- afM,t'.flat_get _ _ _ hm]; exact hc
      ·have:(l+i / t'.sz+1)*t'.sz<=u*t'.sz:=afm _ hlt;rw[afM,afM,agQ]at this;omega
     ·cases hc
    rcases hx.rl_inv.ro_inv with⟨h0,ea,ecap,hv⟩ | ⟨b,o,len,cap,g,hv,hok,hb',hlen,hcap,hcell,h1',hrep⟩
    ·rw[h0]at hfl;have hx0:xs.length=0:=by
      rcases Nat.mul_eq_zero.1 hfl.symm with h | h
      ·exact h
      ·omega
     obtain rfl:xs=[]:=afI hx0;obtain rfl:u=0:=by simp at hun; omega
     obtain rfl:l=0:=by omega
     refine⟨_,w,run G w ρ L a o' 0 0 0 ecap ea ho hv (hb _ _ _ _ _ _ _ (by simp) hl hu),.inl rfl,?_⟩;simp only[List.take_nil,List.drop_nil]; exact .rl _ _ _ (.ron _)
    ·have hlen':len=xs.length:=agO hpos (by rw[hlen,hfl]);subst hlen';refine⟨_,w,run G w ρ L a o' l u _ cap _ ho hv (hb _ _ _ _ _ _ _ hcap hl hu),.inl rfl,.rl _ _ _ ?_⟩;have hl2:((xs.take u).drop l).length=u - l:=by simp; omega
     have hfl2:=t'.flat_length ((xs.take u).drop l);rw[hl2]at hfl2;by_cases e:cap=l
     ·have he:u - l=0:=by omega
      rw[if_pos e];rw[he,agE]at hfl2;obtain he2:=afI hfl2;rw[he2,he];exact .ro _ [] b o 0 _ g hok hb' (by simp) (by omega) (by simp) (by simp) (by simp)
     ·rw[if_neg e];simp only[agL,eK];refine .ro _ _ b (o+l*t'.sz) _ _ (λi=>g (l*t'.sz+i)) hok hb' hfl2.symm (by omega) ?_ ?_ ?_
      ·intro i hi;obtain⟨c,hc⟩:∃ c,(t'.flat ((xs.take u).drop l))[i]? = some c:=⟨_,List.getElem?_eq_getElem hi⟩
       obtain⟨k1,k2⟩:=hcut i c hc;rw[afY]; exact hcell _ (List.getElem?_eq_some_iff.1 k1).1
      ·intro i hi;obtain⟨c,hc⟩:∃ c,(t'.flat ((xs.take u).drop l))[i]? = some c:=⟨_,List.getElem?_eq_getElem hi⟩
       obtain⟨k1,k2⟩:=hcut i c hc;exact h1' _ (List.getElem?_eq_some_iff.1 k1).1
      ·intro i c hc;exact hrep _ c (hcut i c hc).1
   ·rename_i n ex;split at h
    ·rename_i blk hM;obtain⟨h0,h1⟩:=and_true h;obtain⟨h2,h3⟩:=and_true h1;obtain rfl:s=blk.sz:=by simpa using h0
     have hs0:¬ blk.sz=0:=by simpa using h2
     obtain⟨l,u,hlu,hun,hk,hb⟩:=iQ h3;refine⟨_,_,_,aS (λG w ρ L a o' ho hsim hops hT=>?_),hk⟩;have hx:=hops x cb.2.2; rw[ex]at hx;have hl:=λy hy=>hops y (cb.1 y hy)
     have hu:=λy hy=>hops y (cb.2.1 y hy)
     have hL:L n=some blk:=by rw[hT n (by simp),hM]
     rcases hx.slw_inv with⟨p,hp,hv⟩ | ⟨hp,hv⟩
     ·obtain⟨cur,c1,c2,c3,c4,c5,c6⟩:=hsim.place hL hp;rw[wK c3 hs0]at hb hun;refine⟨_,w,run G w ρ L a o' l u _ p.cap _ ho hv (hb _ _ _ _ _ _ _ c4 hl hu),.inl rfl,?_⟩;by_cases e:p.cap=l
      ·rw[if_pos e]; exact .sl n _ _ _ 0 p hp (by omega) (.inr (by omega)) (λ_=>⟨rfl,by omega⟩)
      ·rw[if_neg e];simp only[agL,eK,afL];exact .sl n _ _ _ _ p hp (by omega) (.inl (aQ _ _).symm) (λh0=>⟨by rw[aQ]at h0; exact h0,by omega⟩)
     ·rw[vB (hsim.empty hL hp)]at hb hun;obtain rfl:u=0:=by omega
      obtain rfl:l=0:=by omega
      refine⟨_,w,run G w ρ L a o' 0 0 0 0 none ho hv (hb _ _ _ _ _ _ _ (by simp) hl hu),.inl rfl,?_⟩;simp; exact .slvp _ _ hp
    ·cases h
   ·rename_i n o len ex;split at h
    ·rename_i blk hM;obtain⟨h0,h1⟩:=and_true h;obtain⟨h2,h3⟩:=and_true h1;obtain rfl:s=blk.sz:=by simpa using h0
     obtain⟨l,u,hlu,hun,hk,hb⟩:=iQ h3;refine⟨_,_,_,aS (λG w ρ L a o' ho hsim hops hT=>?_),hk⟩;have hx:=hops x cb.2.2; rw[ex]at hx;have hl:=λy hy=>hops y (cb.1 y hy)
     have hu:=λy hy=>hops y (cb.2.1 y hy)
     have hs0:¬ blk.sz=0:=by simpa using h2
     rcases hx.sl_inv with⟨p,cap,of,hp,hcap,ho',hoc,hv⟩ | ⟨hp,rfl,hv⟩
     ·refine⟨_,w,run G w ρ L a o' l u _ cap _ ho hv (hb _ _ _ _ _ _ _ hcap hl hu),.inl rfl,?_⟩;by_cases e:cap=l
      ·rw[if_pos e]; exact .sl n _ _ _ _ p hp (by omega) (.inr (by omega)) (λh0=>by have:=hoc (by omega); exact⟨this.1,by omega⟩)
      ·rw[if_neg e];simp only[agL,eK];refine .sl n _ _ _ _ p hp (by omega) ?_ (λh0=>?_)
       ·rcases ho' with rfl | h0
        ·exact .inl (by rw[aQ])
        ·exact .inr (by omega)
       ·rw[aQ]at h0;have:=hoc (by omega);exact⟨by rw[this.1]; omega,by omega⟩
     ·obtain rfl:u=0:=by omega
      obtain rfl:l=0:=by omega
      refine⟨_,w,run G w ρ L a o' 0 0 0 0 none ho hv (hb _ _ _ _ _ _ _ (by simp) hl hu),.inl rfl,?_⟩;simp; exact .slvp _ _ hp
    ·cases h
   ·cases h
  ·cases h
 ·rename_i len e ht;split at h
  ·rename_i s hs;split at h
   ·rename_i n o ex;split at h
    ·rename_i blk hM;obtain⟨h0,h1⟩:=and_true h;obtain⟨h2',h3⟩:=and_true h1;obtain⟨h2,h4⟩:=and_true h2';have hfit:=afp h4;obtain rfl:s=1:=by simpa using h2
     have hsb:1=blk.sz:=by simpa using h0
     obtain⟨l,u,hlu,hun,hk,hb⟩:=iQ h3;refine⟨_,_,_,aS (λG w ρ L a o' ho hsim hops hT=>?_),hk⟩;have hx:=hops x cb.2.2; rw[ex]at hx;have hl:=λy hy=>hops y (cb.1 y hy)
     have hu:=λy hy=>hops y (cb.2.1 y hy)
     obtain⟨p,hp,hv⟩:=hx.ptr_inv;have hL:L n=some blk:=by rw[hT n (by simp),hM]
     obtain⟨cur,c1,c2,c3,c4,c5,c6⟩:=hsim.place hL hp;rw[<- hsb,ag9]at c3;have hbb:=hb cx.P (okc G ρ L) w ρ a.eval false len (afw _) hl hu;refine⟨.slice (some (if len=l then⟨p.b,o,none⟩else⟨p.b,o+l*1,none⟩)) (u - l) (len - l),w,?_,.inl rfl,?_⟩
     ·simp only[execOp,ho,hv,Option.map_none,Sem.run_bind,Instr.sliceAt,run_underlying ht,Result.andThen_ok,Instr.sureAddr,Sem.run_pure,hbb,eu hs,eK]
     ·by_cases e:len=l
      ·rw[if_pos e]; exact .sl n _ _ _ _ p hp (by omega) (.inr (by omega)) (λh0=>by rw[aQ]at h0; exact⟨by omega,by omega⟩)
      ·rw[if_neg e]; exact .sl n _ _ _ _ p hp (by omega) (.inl (by rw[aQ])) (λh0=>by rw[aQ]at h0; exact⟨by omega,by omega⟩)
    ·cases h
   ·cases h
  ·cases h
 ·cases h
theorem Body.cut_sound {c c':Body} {o n:Nat} (h:c.cut o n=some c'):c'.size=n/\o+n<=c.size /\ ∀ i,i<n->c'.at i=c.at (o+i):=by
 cases c with
 | flts xs=>
  simp only[Body.cut]at h;by_cases e:o+n<=xs.length
  ·rw[afi e,afl]at h; cases h;exact⟨by simp[Body.size]; omega,e,λi hi=>by simp[Body.at,hi]⟩
  ·rw[afj e,afk]at h; cases h
 | ints q xs=>
  simp only[Body.cut]at h;by_cases e:o+n<=xs.length
  ·rw[afi e,afl]at h; cases h;exact⟨by simp[Body.size]; omega,e,λi hi=>by simp[Body.at,hi]⟩
  ·rw[afj e,afk]at h; cases h
 | cells cs=>
  simp only[Body.cut]at h;by_cases e:o+n<=cs.length
  ·rw[afi e,afl]at h; cases h;exact⟨by simp[Body.size]; omega,e,λi hi=>by simp[Body.at,hi]⟩
  ·rw[afj e,afk]at h; cases h
 | recs t xs=>
  simp only[Body.cut]at h;cases hz:t.sz==1 with
  | false=>rw[hz,afk]at h; cases h
  | true=>
   have hz':t.sz=1:=by simpa using hz
   rw[hz,afl]at h;by_cases e:o+n<=xs.length
   ·rw[afi e,afl]at h; cases h;refine⟨by simp[Body.size,aQ,hz']; omega,by simp only[Body.size,aQ,hz']; omega,λi hi=>?_⟩;show(t.flat _)[i]? = (t.flat xs)[o+i]?;rw[t.flat_get1 hz',t.flat_get1 hz'];simp[hi]
   ·rw[afj e,afk]at h; cases h
 | own t a xs hs=>simp[Body.cut]at h
theorem bA {α:Type} {b:Bool} {x:Option α} {y:α} (h:cond b x none=some y):b=true/\x=some y:=by
 cases b
 ·cases h
 ·exact⟨rfl,h⟩
theorem Body.cutK_sound {c:Body} {o n:Nat} {k:Body->Bool} (h:c.cutK o n k=true):∃ c',c.cut o n=some c'/\k c'=true:=by
 cases c with
 | flts xs=>
  simp only[Body.cutK]at h;obtain⟨h1,h2⟩:=and_true h;exact⟨_,by simp[Body.cut,afp h1],h2⟩
 | ints q xs=>
  simp only[Body.cutK]at h;obtain⟨h1,h2⟩:=and_true h;exact⟨_,by simp[Body.cut,afp h1],h2⟩
 | cells cs=>
  simp only[Body.cutK]at h;obtain⟨h1,h2⟩:=and_true h;exact⟨_,by simp[Body.cut,afp h1],h2⟩
 | recs t xs=>
  simp only[Body.cutK]at h;obtain⟨h0,h3⟩:=and_true h;obtain⟨h1,h2⟩:=and_true h3;have hz:t.sz=1:=by simpa using h0
  exact⟨_,by simp[Body.cut,hz,afp h1],h2⟩
 | own t a xs hs=>simp[Body.cutK]at h
theorem Cj {M:aL} {sz:Nat} {x:V} {src:Body} (hsz:¬ sz=0) (h:Eo M sz x=some src) :
    ∀(G:Gh) (w:World) (ρ:Rho) (L:LK) (v:Value),SimW G w ρ L->(∀ n,n ∈ x.refs->L n=aq M n)->Rep (okc G ρ L) w ρ x v ->
      ∃(m c:Nat) (a:Option Addr) (news:List Value),v=.slice a m c/\m*sz=src.size/\news.length=src.size/\(∀ u ∈ news,u.oneCell'=true)/\(∀(j:Nat) z u,src.at j=some z->news[j]? = some u->Rep (okc G ρ L) w ρ z u) /\
        (¬ m=0 -> ∃ b,a=some b /\ ∀(j:Nat) u,news[j]? = some u->w.cell? (b.add j)=some u):=by
  intro G w ρ L v hsim hagree hx;have pick:∀(b o n:Nat) (c:Body),(∀ i z,i<n->c.at i=some z -> ∃ u,w.cell? ⟨b,o+i,none⟩=some u/\u.oneCell'=true/\Rep (okc G ρ L) w ρ z u)->c.size=n ->
      ∃ news:List Value,news.length=c.size/\(∀ u ∈ news,u.oneCell'=true)/\(∀(j:Nat) z u,c.at j=some z->news[j]? = some u->Rep (okc G ρ L) w ρ z u) /\ ∀(j:Nat) u,news[j]? = some u->w.cell? ((⟨b,o,none⟩:Addr).add j)=some u:=by
    intro b o n c hc hn;have hf:∀ i,∃ u:Value,i<n->(w.cell? ⟨b,o+i,none⟩=some u/\u.oneCell'=true /\ ∀ z,c.at i=some z->Rep (okc G ρ L) w ρ z u):=by
      intro i;by_cases hi:i<n
      · obtain⟨z,hz⟩:=Body.at_some (c:=c) (i:=i) (by omega)
        obtain⟨u,h1,h2,h3⟩:=hc i z hi hz;exact⟨u,λ_=>⟨h1,h2,λz' hz'=>by rw[hz]at hz'; cases hz'; exact h3⟩⟩
      · exact⟨.bool false,λh=>absurd h hi⟩
    obtain⟨f,hf⟩:=Classical.skolem.1 hf;refine⟨(List.range n).map f,by simp[hn],?_,?_,?_⟩
    · intro u hu
      obtain⟨i,hi,rfl⟩:=List.mem_map.1 hu;exact(hf i (List.mem_range.1 hi)).2.1
    · intro j z u hz hu
      have hj:j<n:=by have:=Body.at_lt hz; omega
      rw[List.getElem?_map,List.getElem?_range hj]at hu;cases hu;exact(hf j hj).2.2 z hz
    · intro j u hu
      have hj:j<n:=by have:=(List.getElem?_eq_some_iff.1 hu).1; simpa using this
      rw[List.getElem?_map,List.getElem?_range hj]at hu;cases hu;rw[eK]; exact(hf j hj).1
  have empty:∀(c:Body) (a:Option Addr) (cap:Nat),c.size=0 -> ∃(m c':Nat) (a':Option Addr) (news:List Value),Value.slice a 0 cap=.slice a' m c'/\m*sz=c.size/\news.length=c.size/\(∀ u ∈ news,u.oneCell'=true)/\(∀(j:Nat) z u,c.at j=some z->news[j]? = some u->Rep (okc G ρ L) w ρ z u) /\
        (¬ m=0 -> ∃ b,a'=some b /\ ∀(j:Nat) u,news[j]? = some u->w.cell? (b.add j)=some u):=by
    intro c a cap hc;exact⟨0,cap,a,[],rfl,by simp[hc],by simp[hc],by simp,by simp,by simp⟩
  unfold Eo at h;split at h
  · cases h
    obtain rfl:=hx.nil_inv;exact empty _ _ _ rfl
  · cases h
    obtain rfl:=hx.val_inv;exact empty _ _ _ rfl
  · rename_i xs
    obtain⟨e,h'⟩:=bA h;clear h;obtain rfl:sz=1:=by simpa using e
    cases h';rcases hx.rof_inv with⟨rfl,ea,ecap,rfl⟩ | ⟨b,o,cap,g,rfl,hok,hb,hcap,hcell,hrep⟩
    · exact empty _ _ _ rfl
    · obtain⟨news,n1,n2,n3,n4⟩:=pick b o xs.length (.flts xs) (λi z hi hz=>by simp only[Body.at,afQ]at hz;obtain⟨y,hy,rfl⟩:=hz;exact⟨g i,hcell i hi,Ow (hrep i y hy),.flt _ _ (hrep i y hy)⟩) rfl
      exact⟨_,_,_,news,rfl,by simp[Body.size],n1,n2,n3,λ_=>⟨_,rfl,n4⟩⟩
  · rename_i q xs
    obtain⟨e,h'⟩:=bA h;clear h;obtain rfl:sz=1:=by simpa using e
    cases h';rcases hx.roi_inv with⟨rfl,ea,ecap,rfl⟩ | ⟨b,o,cap,rfl,hok,hb,hcap,hcell⟩
    · exact empty _ _ _ rfl
    · obtain⟨news,n1,n2,n3,n4⟩:=pick b o xs.length (.ints q xs) (λi z hi hz=>by simp only[Body.at,afQ]at hz;obtain⟨y,hy,rfl⟩:=hz;exact⟨_,hcell i y hy,rfl,.int _ _⟩) rfl
      exact⟨_,_,_,news,rfl,by simp[Body.size],n1,n2,n3,λ_=>⟨_,rfl,n4⟩⟩
  · rename_i s cs
    obtain⟨e,h'⟩:=bA h;clear h;obtain rfl:s=sz:=by simpa using e
    cases h';rcases hx.ro_inv with⟨rfl,ea,ecap,rfl⟩ | ⟨b,o,len,cap,g,rfl,hok,hb,hl,hcap,hcell,hone,hrep⟩
    · exact empty _ _ _ rfl
    · obtain⟨news,n1,n2,n3,n4⟩:=pick b o cs.length (.cells cs) (λi z hi hz=>⟨g i,hcell i hi,hone i hi,hrep i z hz⟩) rfl
      exact⟨_,_,_,news,rfl,by simp[Body.size,hl],n1,n2,n3,λ_=>⟨_,rfl,n4⟩⟩
  · rename_i t' xs
    obtain⟨e,h'⟩:=bA h;clear h;obtain rfl:t'.sz=sz:=by simpa using e
    cases h';have hfl:=t'.flat_length xs;rcases hx.rl_inv.ro_inv with⟨h0,ea,ecap,rfl⟩ | ⟨b,o,len,cap,g,rfl,hok,hb,hl,hcap,hcell,hone,hrep⟩
    · exact empty _ _ _ (by show cY _ _=0; rw[aQ,<- hfl,h0]; rfl)
    · have hbs:(Body.recs t' xs).size=(t'.flat xs).length:=by show cY _ _=_; rw[aQ,hfl]
      obtain⟨news,n1,n2,n3,n4⟩:=pick b o (t'.flat xs).length (.recs t' xs) (λi z hi hz=>⟨g i,hcell i hi,hone i hi,hrep i z hz⟩) hbs;exact⟨_,_,_,news,rfl,by rw[hbs,hl],n1,n2,n3,λ_=>⟨_,rfl,n4⟩⟩
  · rename_i n
    split at h
    · rename_i blk hM
      obtain⟨e,h'⟩:=bA h;clear h;obtain rfl:blk.sz=sz:=by simpa using e
      cases h';have hL:L n=some blk:=by rw[hagree n (by simp[V.refs]),hM]
      rcases hx.slw_inv with⟨p,hp,rfl⟩ | ⟨hp,rfl⟩
      · obtain⟨cur,c1,c2,c3,c4,c5,c6⟩:=hsim.place hL hp
        obtain⟨news,n1,n2,n3,n4⟩:=pick p.b 0 blk.c.size blk.c (λi z hi hz=>by obtain⟨u,u1,u2,u3⟩:=c6 i z hz;exact⟨u,by rw[afL]; exact aW c1 u1,u2,u3⟩) rfl
        exact⟨_,_,_,news,rfl,c3,n1,n2,n3,λ_=>⟨_,rfl,n4⟩⟩
      · exact empty _ _ _ (hsim.empty hL hp)
    · cases h
  · rename_i n o len
    split at h
    · rename_i blk hM
      obtain⟨e,h'⟩:=bA h;clear h;obtain rfl:blk.sz=sz:=by simpa using e
      obtain⟨hcs,hle,hat⟩:=Body.cut_sound h';rw[aQ]at hcs hle hat;have hL:L n=some blk:=by rw[hagree n (by simp[V.refs]),hM]
      rcases hx.sl_inv with⟨p,cap,o',hp,hcap,ho',-,rfl⟩ | ⟨hp,rfl,rfl⟩
      · rcases ho' with rfl | rfl
        · obtain⟨cur,c1,c2,c3,c4,c5,c6⟩:=hsim.place hL hp
          obtain⟨news,n1,n2,n3,n4⟩:=pick p.b o' (len*blk.sz) src (λi z hi hz=>by rw[hat i hi]at hz;obtain⟨u,u1,u2,u3⟩:=c6 _ z hz;exact⟨u,aW c1 u1,u2,u3⟩) hcs
          exact⟨_,_,_,news,rfl,hcs.symm,n1,n2,n3,λ_=>⟨_,rfl,n4⟩⟩
        · exact empty _ _ _ (by simpa using hcs)
      · exact empty _ _ _ (by simpa using hcs)
    · cases h
  · cases h
end
theorem RT.parses_sound (t:RT):∀(n:Nat) (cs:List V) (ys:List t.Ty),t.parses n cs=some ys->(t.flat ys).length=cs.length /\ ∀(i:Nat) z,(t.flat ys)[i]? = some z -> ∃ c,cs[i]? = some c/\Stands c z
 | n,[],ys,h=>by
  have:ys=[]:=by cases n <;> (simp[RT.parses]at h; exact h)
  subst this; exact⟨rfl,λi z hz=>by simp[RT.flat]at hz⟩
 | 0,c::cs,ys,h=>by simp[RT.parses]at h
 | n+1,c::cs,ys,h=>by
  simp only[RT.parses]at h;split at h
  ·rename_i x r hp;obtain⟨zs,hz,rfl⟩:=Option.map_eq_some_iff.1 h;obtain⟨l1,g1⟩:=t.parse_sound _ _ _ hp;obtain⟨l2,g2⟩:=t.parses_sound n r zs hz;refine⟨?_,λi z hi=>?_⟩
   ·show(t.cells x++t.flat zs).length=_;rw[agy,l2,<- agy,l1]
   ·have hi:(t.cells x++t.flat zs)[i]? = some z:=hi;rw[List.getElem?_append]at hi;split at hi
    ·rename_i hlt;exact g1 i z (by rw[List.getElem?_append_left hlt]; exact hi)
    ·rename_i hge;obtain⟨c1,hc1,s1⟩:=g2 _ z hi;obtain⟨c2,hc2,s2⟩:=g1 i c1 (by rw[List.getElem?_append_right (by omega)]; exact hc1);exact⟨c2,hc2,λok w ρ u hu=>s1 ok w ρ u (s2 ok w ρ u hu)⟩
  ·cases h
theorem tV {b src c:Body} (h:b.app src=some c):c.size=b.size+src.size /\ ∀ i z,c.at i=some z->(i<b.size/\b.at i=some z)\/(b.size<=i /\ ∃ y,src.at (i - b.size)=some y/\Stands y z):=by
 have ap:∀{α:Type} (xs ys:List α) (f:α->V) i z,((xs++ys)[i]?).map f=some z->(i<xs.length/\(xs[i]?).map f=some z)\/(xs.length<=i /\ ∃ y,(ys[i - xs.length]?).map f=some y/\Stands y z):=by
  intro α xs ys f i z h;rw[List.getElem?_append]at h;split at h
  ·exact .inl ⟨by assumption,h⟩
  ·exact .inr ⟨by omega,z,h,Stands.refl _⟩
 unfold Body.app at h;split at h
 ·cases h
 ·cases h; exact⟨by simp[Body.size],λi z hz=>ap _ _ _ i z hz⟩
 ·obtain⟨h1,h2⟩:=bA h;obtain rfl:=afp h1;cases h2; exact⟨by simp[Body.size],λi z hz=>ap _ _ _ i z hz⟩
 ·obtain⟨h1,h2⟩:=bA h;cases h2;refine⟨by simp[Body.size],λi z hz=>?_⟩;rename_i xs ys;have:=ap xs ys id i z (by simpa [Body.at]using hz);simpa [Body.at,Body.size]using this
 ·rename_i t xs t' ys;obtain⟨e,h⟩:=RT.cast_inv h (by simp);subst e;cases h;refine⟨by simp[Body.size,aQ,afM],λi z hz=>?_⟩;have hz:(t'.flat (xs++ys))[i]? = some z:=hz;rw[t'.flat_append]at hz;have:=ap _ _ id i z (by simpa using hz);simpa [Body.at,Body.size,aQ,t'.flat_length]using this
 ·rename_i t xs cs;obtain⟨ys,hy,rfl⟩:=Option.map_eq_some_iff.1 h;obtain⟨l1,g1⟩:=t.parses_sound _ _ _ hy;rw[t.flat_length]at l1;refine⟨by simp[Body.size,aQ,afM,l1],λi z hz=>?_⟩;have hz:(t.flat (xs++ys))[i]? = some z:=hz;rw[t.flat_append,List.getElem?_append]at hz;have hb:(Body.recs t xs).size=(t.flat xs).length:=by show cY _ _=_; rw[aQ,t.flat_length]
  rw[hb];split at hz
  ·exact .inl ⟨by assumption,hz⟩
  ·obtain⟨y,hy,hs⟩:=g1 _ z hz;exact .inr ⟨by omega,y,hy,hs⟩
 ·cases h;exact⟨by simp[Body.size],λi z hz=>.inr ⟨aia _,z,by simpa [Body.size]using hz,Stands.refl _⟩⟩
 ·cases h;refine⟨by simp[Body.size],λi z hz=>.inl ⟨Body.at_lt hz,hz⟩⟩
 ·cases h
theorem wH {b src c:Body} (h:b.app src=some c):c.isOwn=false:=by
 unfold Body.app at h;split at h
 ·cases h
 ·cases h; rfl
 ·obtain⟨h1,h2⟩:=bA h; cases h2; rfl
 ·obtain⟨h1,h2⟩:=bA h; cases h2; rfl
 ·rename_i t xs t' ys;obtain⟨e,h⟩:=RT.cast_inv h (by simp);cases h; rfl
 ·obtain⟨ys,hy,rfl⟩:=Option.map_eq_some_iff.1 h; rfl
 ·cases h; rfl
 ·cases h;rename_i h1 _ _;cases b with
  | own t a xs hs=>exact absurd rfl (h1 t a xs hs)
  | _=>rfl
 ·cases h
theorem yB {P:Program} {w:World} {t e:TypeId} {i:TypeInfo} (ty:TypeId) (ht:P.underlying t=some (.slice e)) (hi:P.info? e=some i) (b:Option Addr) (n cap:Nat) (a:Option Addr) (c:Nat) (hn:n<=cap) :
  (Builtin.append_ #[t,t] ty #[.slice b n cap,.slice a 0 c]).run P w=.ok (.slice b n cap) w:=by
 cases a <;> cases b <;> simp[Builtin.append_,run_underlying ht,sizeOf,typeInfo,hi,Builtin.lenOf,Builtin.firstCells,loadCells,loadCellsFrom,hn,storeCells]
theorem vh {P:Program} {e:Nat} {z:List V} {c:Body} (hz:cH P e=some z) (h:jH P e 0=some c):c.size=0:=by have:=(xw hz h).1;simpa using this
theorem SimW.adopt {G:Gh} {w w':World} {ρ:Rho} {L:LK} (h:SimW G w ρ L) (nm:Nat) (hnm:ρ nm=none) {n m:Nat} (hbn:G.base<=n) (hbm:G.base<=m) (hne:m ≠ n) {blk:Blk} (hn:L n=some blk) {tt:Nat} {a:RT} {xs:List a.Ty} (hcb:blk.c=.own tt a xs [])
  (op:Option Place) (hop:ρ n=some op) {bm:Blk} (hm:L m=some bm) {cs:List V} (hmc:bm.c=.cells cs) (hme:bm.e=tt) (hms:bm.sz=1) {q:Place} (hq:ρ m=some (some q)) {x':a.Ty} (hpr:a.parse cs=some (x',[]))
  (b' len cap e:Nat) (cur':Array Value) (subs:List Nat) (hsubs:(∃ p,op=some p/\subs=p.subs)\/(op=none/\subs=[])) (hb':(∃ p,op=some p/\b'=p.b)\/w.heap.size<=b') (hheap:w'.heap[b']? = some (.cells cur' e (0,0))) (hoth:∀ b,b ≠ b'->b<w.heap.size->w'.heap[b]? = w.heap[b]?) (hsize:w.heap.size<=w'.heap.size)
  (h1:w'.os=w.os) (h2:w'.tape=w.tape) (h3:w'.output=w.output) (hlen:len=xs.length+1) (hcap:len<=cap) (hcm:cap<=maxLen) (hcs:cap<=cur'.size)
  (hcur:∀(i:Nat) b,(subs++[q.b])[i]? = some b->cur'[i]? = some (.pointer (some ⟨b,0,none⟩))) :
  SimW G w' (aK ρ nm (some ⟨b',len,cap,subs++[q.b]⟩)) (aI (aI (aI L n none) m none) nm (some ⟨e,1,.own tt a (xs++[x']) []⟩)) /\
  Keeps (okc G ρ L) w ρ (okc G (aK ρ nm (some ⟨b',len,cap,subs++[q.b]⟩)) (aI (aI (aI L n none) m none) nm (some ⟨e,1,.own tt a (xs++[x']) []⟩))) w' (aK ρ nm (some ⟨b',len,cap,subs++[q.b]⟩)):=by
 have hL:∀ k bl,k ≠ nm->aI (aI (aI L n none) m none) nm (some ⟨e,1,.own tt a (xs++[x']) []⟩) k=some bl->k ≠ n/\k ≠ m/\L k=some bl:=by
  intro k bl hk e;unfold aI at e;rw[if_neg hk]at e;by_cases e1:k=m
  ·rw[if_pos e1]at e; cases e
  ·rw[if_neg e1]at e;by_cases e2:k=n
   ·rw[if_pos e2]at e; cases e
   ·rw[if_neg e2]at e; exact⟨e2,e1,e⟩
 have hqm:hasB q bm.c q.b:=bY _ _;have hhas:∀ b,b=b'\/b ∈ subs++[q.b]->(∃ p,op=some p/\hasB p blk.c b)\/b=q.b\/w.heap.size<=b:=by
  intro b hb;rcases hb with rfl | hb
  ·rcases hb' with⟨p,hp,rfl⟩ | hb'
   ·exact .inl ⟨p,hp,bY _ _⟩
   ·exact .inr (.inr hb')
  ·rcases List.mem_append.1 hb with hb | hb
   ·rcases hsubs with⟨p,hp,rfl⟩ | ⟨_,rfl⟩
    ·obtain⟨i,hi⟩:=List.getElem?_of_mem hb;exact .inl ⟨p,hp,.inr ⟨i,hi,by rw[hcb]; simp[Body.holes]⟩⟩
    ·simp at hb
   ·simp at hb; exact .inr (.inl hb)
 have hnew:∀ b,Place.has ⟨b',len,cap,subs++[q.b]⟩ b->(∃ p,op=some p/\hasB p blk.c b)\/b=q.b\/w.heap.size<=b:=λb hb=>hhas b (by
  rcases hb with hb | hb
  ·exact .inl hb.symm
  ·exact .inr hb)
 have hk:Keeps (okc G ρ L) w ρ (okc G (aK ρ nm (some ⟨b',len,cap,subs++[q.b]⟩)) (aI (aI (aI L n none) m none) nm (some ⟨e,1,.own tt a (xs++[x']) []⟩))) w' (aK ρ nm (some ⟨b',len,cap,subs++[q.b]⟩)):=by
  refine⟨?_,?_,hsize⟩
  ·intro k p hp;unfold aK;by_cases e:k=nm
   ·subst e; rw[hnm]at hp; cases hp
   ·simp[e,hp]
  ·intro b hb ho;refine⟨⟨ho.1,λk bl p hk hp hh=>?_⟩,hoth b (λe=>?_) hb⟩
   ·by_cases e:k=nm
    ·subst e;simp[aK]at hp; subst hp;rcases hnew b hh.has with⟨p,hp,hp2⟩ | h4 | h4
     ·exact ho.2 n blk p hn (by rw[hop,hp]) hp2
     ·subst h4; exact ho.2 m bm q hm hq hqm
     ·omega
    ·simp only[aK,e,afS]at hp;exact ho.2 k bl p (hL k bl e hk).2.2 hp hh
   ·subst e;rcases hb' with⟨p,hp,rfl⟩ | hb'
    ·exact ho.2 n blk p hn (by rw[hop,hp]) (bY _ _)
    ·omega
 have hother:∀ k bl p b,k ≠ n->k ≠ m->L k=some bl->ρ k=some (some p)->hasB p bl.c b->¬((∃ p,op=some p/\hasB p blk.c b)\/b=q.b\/w.heap.size<=b):=by
  rintro k bl p b k1 k2 k3 k4 k5 (⟨p',hp',hh⟩ | rfl | hb)
  ·exact k1 (h.inj k n bl blk p p' k3 hn k4 (by rw[hop,hp']) b k5 hh)
  ·exact k2 (h.inj k m bl bm p q k3 hm k4 hq _ k5 hqm)
  ·have:=h.ltB k3 k4 k5; omega
 obtain⟨op',hop',hbn'⟩:=h.blks n blk hn;rw[hop]at hop'; cases hop';obtain⟨q',hq',hbm'⟩:=h.blks m bm hm;rw[hq]at hq'; cases hq';obtain⟨cq,q1,q2,q3,q4,q5,q6,-⟩:=hbm';rw[hmc]at q6;rw[hme]at q1;have hqlen:cs.length<=cq.size:=by rw[hms,hmc]at q3; rw[hms]at q2;have:q.len*1=cs.length:=q3;omega
 obtain⟨pr1,pr2⟩:=RT.parse_sound a _ _ _ hpr;rw[afU,a.cells_length]at pr1;have hrow:subs.length=xs.length/\(∀ p,op=some p->p.b ∉ subs)/\subs.Nodup /\ ∀(i:Nat) x,xs[i]? = some x -> ∃ b,subs[i]? = some b /\ ∃ c0,w.heap[b]? = some (.cells c0 tt (0,0))/\a.sz<=c0.size/\BodyRep (okc G ρ L) w ρ (.cells (a.cells x)) c0:=by
  rcases hsubs with⟨p,rfl,rfl⟩ | ⟨rfl,rfl⟩
  ·obtain⟨cr,g1,g2,g3,g4,g5,g6,g7⟩:=hbn';rw[hcb]at g7;obtain⟨k1,k2,k3,k4⟩:=g7;refine⟨k1,λp' hp'=>by cases hp'; exact k2,k3,λi x hx=>?_⟩;obtain⟨b,b1,-,b3⟩:=k4 i x hx;obtain⟨c0,d1,d2,d3⟩:=b3 (by simp);exact⟨b,b1,c0,d1,d2,d3⟩
  ·have h0:blk.c.size=0:=hbn';rw[hcb]at h0;have:xs=[]:=afI h0;subst this;exact⟨rfl,λp hp=>by simp,by simp,λi x hx=>by simp at hx⟩
 obtain⟨r1,r2,r3,r4⟩:=hrow;have hslt:∀ b,b ∈ subs->b<w.heap.size /\ ∃ p,op=some p/\hasB p blk.c b:=by
  intro b hb;rcases hsubs with⟨p,rfl,rfl⟩ | ⟨rfl,rfl⟩
  ·obtain⟨i,hi⟩:=List.getElem?_of_mem hb;have hh:hasB p blk.c b:=.inr ⟨i,hi,by rw[hcb]; simp[Body.holes]⟩;exact⟨h.ltB hn hop hh,p,rfl,hh⟩
  ·simp at hb
 have hqb:q.b<w.heap.size:=h.lt hm hq;have hqs:q.b ∉ subs:=λhb=>by obtain⟨_,p,hp,hh⟩:=hslt _ hb;exact hne (h.inj m n bm blk q p hm hn hq (by rw[hop,hp]) _ hqm hh)
 have hb's:b' ∉ subs++[q.b]:=by
  intro hb;rcases hb' with⟨p,hp,rfl⟩ | hb'
  ·rcases List.mem_append.1 hb with hb | hb
   ·exact r2 p hp hb
   ·simp at hb;exact hne (h.inj m n bm blk q p hm hn hq (by rw[hop,hp]) _ hqm (hb ▸ bY _ _))
  ·rcases List.mem_append.1 hb with hb | hb
   ·have:=(hslt _ hb).1; omega
   ·simp at hb; omega
 have hkeepB:∀ b,b ∈ subs++[q.b]->w'.heap[b]? = w.heap[b]?:=by
  intro b hb;refine hoth b (λe=>hb's (e ▸ hb)) ?_;rcases List.mem_append.1 hb with hb | hb
  ·exact(hslt b hb).1
  ·simp at hb; rw[hb]; exact hqb
 refine⟨⟨?_,?_,?_,afG h.size hsize,h1.trans h.os,h2.trans h.tape,h3.trans h.output,?_,h.tabs λb zs e=>hoth b (λhe=>?_) (h.tab b zs e).2.1,?_⟩,hk⟩
 ·intro k bl hkk;by_cases e1:k=nm
  ·subst e1;simp only[aI,agU,afN]at hkk;subst hkk;refine⟨some ⟨b',len,cap,subs++[q.b]⟩,by simp[aK],cur',hheap,by simpa using hcs,by simp[Body.size,hlen],hcap,hcm,?_,?_⟩
   ·intro i z hz;simp only[Body.at,afQ]at hz;obtain⟨y,hy,rfl⟩:=hz;have hi:i<(subs++[q.b]).length:=by have:=(List.getElem?_eq_some_iff.1 hy).1;simp at this ⊢; omega
    exact⟨_,hcur i _ (List.getElem?_eq_getElem hi),rfl,.any _⟩
   ·refine⟨by simp[r1],hb's,?_,λi x hx=>?_⟩
    ·show(subs++[q.b]).Nodup;rw[List.nodup_append];refine⟨r3,by simp,λb hb c hc e=>?_⟩;simp at hc; subst hc; subst e; exact hqs hb
    ·rw[List.getElem?_append]at hx;split at hx
     ·rename_i hlt;obtain⟨b,b1,c0,d1,d2,d3⟩:=r4 i x hx;have hbi:(subs++[q.b])[i]? = some b:=by rw[List.getElem?_append_left (by omega)]; exact b1
      exact⟨b,hbi,hcur i b hbi,λ_=>⟨c0,(hkeepB b (List.mem_of_getElem? hbi)).trans d1,d2,d3.mono hk⟩⟩
     ·rename_i hge;have hi:i=xs.length:=by have:=(List.getElem?_eq_some_iff.1 hx).1;simp at this; omega
      subst hi;rw[afT]at hx;simp at hx; subst hx;have hbi:(subs++[q.b])[xs.length]? = some q.b:=by rw[<- r1]; simp
      refine⟨q.b,hbi,hcur _ _ hbi,λ_=>⟨cq,(hkeepB q.b (List.mem_of_getElem? hbi)).trans q1,by omega,?_⟩⟩;intro j z hz;obtain⟨c,hc,hst⟩:=pr2 j z (by rw[afU]; exact hz);obtain⟨v,v1,v2,v3⟩:=q6 j c hc;exact⟨v,v1,v2,(hst _ _ _ _ v3).mono hk⟩
  ·obtain⟨k1,k2,k3⟩:=hL k bl e1 hkk;obtain⟨p,hp,hb⟩:=h.blks k bl k3;refine⟨p,by simp[aK,e1,hp],hb.of hk λp' b hp' hh=>hoth b (λe=>?_) (h.ltB k3 (by rw[hp,hp']) hh)⟩;subst e;exact hother k bl p' _ k1 k2 k3 (by rw[hp,hp']) hh (hhas _ (.inl rfl))
 ·intro k k' bk bk' p p' hk1 hk2 hp hp' b hb1 hb2;by_cases e1:k=nm <;> by_cases e2:k'=nm
  ·rw[e1,e2]
  ·subst e1;simp[aK]at hp; subst hp;simp only[aK,e2,afS]at hp';obtain⟨g1,g2,g3⟩:=hL k' bk' e2 hk2;exact absurd (hnew b hb1.has) (hother k' bk' p' b g1 g2 g3 hp' hb2)
  ·subst e2;simp[aK]at hp'; subst hp';simp only[aK,e1,afS]at hp;obtain⟨g1,g2,g3⟩:=hL k bk e1 hk1;exact absurd (hnew b hb2.has) (hother k bk p b g1 g2 g3 hp hb1)
  ·simp only[aK,e1,e2,afS]at hp hp';exact h.inj k k' bk bk' p p' (hL k bk e1 hk1).2.2 (hL k' bk' e2 hk2).2.2 hp hp' b hb1 hb2
 ·intro k p hk1 hp b hb;by_cases e1:k=nm
  ·subst e1;simp[aK]at hp; subst hp;rcases hnew b hb with⟨p,hp,hh⟩ | rfl | hb
   ·exact h.own n p hbn (by rw[hop,hp]) b hh.has
   ·exact h.own m q hbm hq _ (.inl rfl)
   ·exact .inl (afG h.size hb)
  ·simp only[aK,e1,afS]at hp;exact h.own k p hk1 hp b hb
 ·intro b hb hex hno;have hbb:b ≠ b':=by
   intro e; subst e;rcases hb' with⟨p,hp,rfl⟩ | hb'
   ·rcases h.own n p hbn (by rw[hop,hp]) _ (.inl rfl)with h4 | h4
    ·omega
    ·exact hex h4
   ·have:=h.size; omega
  rw[hoth b hbb (afD hb h.size)];refine h.old b hb hex λk p hk1 hp=>hno k p hk1 ?_
  unfold aK;by_cases e1:k=nm
  ·subst e1; rw[hnm]at hp; cases hp
  ·simp[e1,hp]
 ·subst he;rcases hb' with⟨p,hp,rfl⟩ | hb'
  ·exact h.apart (by rw[hop,hp]:ρ n=some (some p)) e rfl
  ·have:=(h.tab _ zs e).2.1; omega
 ·intro k p hp b hb;by_cases e1:k=nm
  ·subst e1;simp[aK]at hp; subst hp;rcases hnew b hb with⟨p,hp,hh⟩ | rfl | hb
   ·exact h.high n p (by rw[hop,hp]) b hh.has
   ·exact h.high m q hq _ (.inl rfl)
   ·cases e':zI b with
    | none=>rfl
    | some zs=>have:=(h.tab _ zs e').2.1; omega
  ·simp only[aK,e1,afS]at hp;exact h.high k p hp b hb
section
variable {cx:Cx} {base:Nat} {F:List V} {M:aL} {k:KOp}
theorem f8 {P:Program} {w w':World} {a:Act} {o:Oper} {c:Call} {s x:Operand} {t:TypeId} {v:Value} (ho:o.op=.call c) (hc:c.callee=.builtin .append) (ha:c.args = #[s,x]) (ht:c.argTypes = #[t,t])
  (h:(Builtin.append_ #[t,t] o.type #[a.eval s,a.eval x]).run P w=.ok v w'):(execOp a.eval o).run P w=.ok (.value v) w':=by
 unfold execOp;simp only[ho,resolve,hc,ha,ht,invoke,builtin,Sem.run_bind,Sem.run_pure,Result.andThen_ok,ah4,agl,List.map_nil,h]
set_option maxHeartbeats 1000000 in
theorem El {s x:Operand} {t e sz by':Nat} {z:List V} (he:xI cx.P t=some e) (hsz:iP cx.P e=some sz) (hby:bytesOf cx.P e=some by') (hz:cH cx.P e=some z) (hzl:z.length=sz) (hby0:¬ by'=0) (h:Hr base M e sz by' (ev F s) (ev F x) k=true) :
  ∃ z U T,bG cx.P base F M (.call { callee:=.builtin .append,args:=#[s,x],argTypes:=#[t,t] }) z U T/\k z U T=true:=by
 unfold Hr at h;split at h
 ·rename_i n v es ex;split at h
  ·rename_i e' sz' tt a xs ve svz m hMn hMv;split at h
   ·rename_i tt' smz cs hMm;obtain⟨h0,h1⟩:=and_true h;obtain⟨h2,h3⟩:=and_true h1;obtain⟨h4,h5⟩:=and_true h3;obtain⟨a0,a1⟩:=and_true h0;obtain⟨a2,a3⟩:=and_true a0;obtain⟨a4,a5⟩:=and_true a2;obtain⟨a6,a7⟩:=and_true a4;obtain⟨a8,a9⟩:=and_true a5;obtain⟨b0,b1⟩:=and_true a3;obtain⟨b2,b3⟩:=and_true b0;obtain⟨b4,b5⟩:=and_true b1;obtain⟨c0,c1⟩:=and_true a1;obtain⟨c2,c3⟩:=and_true c1;obtain rfl:sz=1:=by simpa using a6
    obtain rfl:svz=1:=by simpa using a7
    obtain rfl:sz'=1:=by simpa using a8
    obtain rfl:smz=1:=by simpa using a9
    obtain rfl:tt'=tt:=by simpa using b2
    obtain rfl:e'=e:=by simpa using b3
    have hbn:=afp b4;have hbm:=afp b5;have hmn:m ≠ n:=by simpa using c0
    have hvn:v ≠ n:=by simpa using c2
    have hvm:v ≠ m:=by simpa using c3
    have hbd:=afp h2;clear h h0 h1 h3 a0 a1 a2 a3 a4 a5 a6 a7 a8 a9 b0 b1 b2 b3 b4 b5 c0 c1 c2 c3 h2;split at h5
    ·rename_i x' hpr;have ht:=oH he;obtain⟨i,hi,hisz⟩:=uE hsz;obtain⟨i2,hi2,hiby⟩:=qu hby;rw[hi]at hi2; cases hi2;obtain⟨i3,zv,hi3,hzv,_,hzrep⟩:=gN hz;rw[hi]at hi3; cases hi3;refine⟨_,_,_,?_,h5⟩;intro G w ρ L act o' ho hb _ hsim hops hT hnew N Q hn;have hx:=hops x (by simp[Op.operands,Call.operands]); rw[ex]at hx;have hs:=hops s (by simp[Op.operands,Call.operands]); rw[es]at hs;obtain⟨hnm,hbase⟩:=hnew M.length (some ⟨e',1,.own tt' a (xs++[x']) []⟩) (by simp) (afw _);have hLn:L n=some ⟨e',1,.own tt' a xs []⟩:=by rw[hT n (by simp),hMn]
     have hLv:L v=some ⟨ve,1,.cells [.ptr m 0]⟩:=by rw[hT v (by simp),hMv]
     have hLm:L m=some ⟨tt',1,.cells cs⟩:=by rw[hT m (by simp),hMm]
     obtain⟨pv,hpv,hvv⟩:∃ p,ρ v=some (some p)/\act.eval x=.slice (some ⟨p.b,0,none⟩) p.len p.cap:=by
      rcases hx.slw_inv with h | ⟨h1,h2⟩
      ·exact h
      ·have:=hsim.empty hLv h1; simp[Body.size]at this
     obtain⟨cv,v1,v2,v3,v4,v5,v6⟩:=hsim.place hLv hpv;have hv1:pv.len=1:=by have:pv.len*1=1:=v3; omega
     obtain⟨u,u1,u2,u3⟩:=v6 0 (.ptr m 0) rfl;obtain⟨q,hq,rfl⟩:=u3.ptr_inv;have hcell:∀(j:Nat) y,[Value.pointer (some ⟨q.b,0,none⟩)][j]? = some y->w.cell? ((⟨pv.b,0,none⟩:Addr).add j)=some y:=by
      intro j y hy;cases j with
      | zero=>simp at hy; subst hy; rw[eK]; exact aW v1 u1
      | succ j=>simp at hy
     have hone:∀ y ∈ [Value.pointer (some ⟨q.b,0,none⟩)],y.oneCell'=true:=by intro y hy; simp at hy; subst hy; rfl
     rw[hv1]at hvv;have hrho:∀(p:Option Place) n',aK ρ M.length p n' ≠ ρ n'->n' ∈ [n,m,M.length]:=by
      intro p n' hne;by_cases e1:n'=M.length
      ·simp[e1]
      ·simp[aK,e1]at hne
     have fin:∀(w':World) (b' len cap:Nat) (subs:List Nat),(execOp act.eval o').run cx.P w=.ok (.value (.slice (some ⟨b',0,none⟩) len cap)) w' ->
       (SimW G w' (aK ρ M.length (some ⟨b',len,cap,subs⟩)) (aI (aI (aI L n none) m none) M.length (some ⟨e',1,.own tt' a (xs++[x']) []⟩)) /\
        Keeps (okc G ρ L) w ρ (okc G (aK ρ M.length (some ⟨b',len,cap,subs⟩)) (aI (aI (aI L n none) m none) M.length (some ⟨e',1,.own tt' a (xs++[x']) []⟩))) w' (aK ρ M.length (some ⟨b',len,cap,subs⟩)))->o'.wp cx.P act w N Q:=by
      intro w' b' len cap subs hr hs;exact dY hr (hn _ w' _ hs.1 (.slw M.length ⟨b',len,cap,subs⟩ (by simp[aK])) hs.2 (λn' hne=>by simpa using hrho _ n' hne))
     rcases hs.slw_inv with⟨p,hp,hsv⟩ | ⟨hp,hsv⟩
     ·obtain⟨op,hop,cur,g1,g2,g3,g4,g5,g6,g7⟩:∃ op,ρ n=some (some op) /\ ∃ cur,w.heap[op.b]? = some (.cells cur e' (0,0))/\op.cap*1<=cur.size/\op.len*1=xs.length/\op.len<=op.cap/\op.cap<=maxLen/\BodyRep (okc G ρ L) w ρ (.own tt' a xs []) cur/\SubsAt (okc G ρ L) w ρ op (.own tt' a xs []) cur:=by obtain⟨q0,hq0,hb0⟩:=hsim.blks n _ hLn;rw[hp]at hq0; cases hq0;exact⟨p,hp,hb0⟩
      rw[hp]at hop; cases hop;obtain⟨k1,k2,k3,k4⟩:=g7;have hlenp:p.len=xs.length:=by omega
      have hptr:∀(j:Nat) b,p.subs[j]? = some b->cur[j]? = some (.pointer (some ⟨b,0,none⟩)):=by
       intro j b hjb;have hj:j<xs.length:=by rw[<- k1]; exact(List.getElem?_eq_some_iff.1 hjb).1
       obtain⟨b2,e1,e2,-⟩:=k4 j xs[j] (List.getElem?_eq_getElem hj);rw[hjb]at e1; cases e1; exact e2
      by_cases hroom:p.len+1<=p.cap
      ·have hr:=run_append_room (P:=cx.P) w t o'.type e' i ht hi p.b p.len p.cap cur g1 ⟨pv.b,0,none⟩ 1 pv.cap [Value.pointer (some ⟨q.b,0,none⟩)] (by simp[hisz]) hcell hone hroom (by simp[hisz]; omega);refine fin _ p.b (p.len+1) p.cap (p.subs++[q.b]) (f8 ho rfl rfl rfl (by rw[hsv,hvv]; exact hr)) ?_;have hl2:p.len*i.size+[Value.pointer (some ⟨q.b,0,none⟩)].length<=cur.toList.length:=by simp[hisz]; omega
       refine hsim.adopt M.length hnm (by omega) (by omega) hmn hLn rfl (some p) hp hLm rfl rfl rfl hq hpr p.b (p.len+1) p.cap e' (cur.toList.take (p.len*i.size)++[Value.pointer (some ⟨q.b,0,none⟩)]++cur.toList.drop (p.len*i.size+[Value.pointer (some ⟨q.b,0,none⟩)].length)).toArray p.subs (.inl ⟨p,rfl,rfl⟩) (.inl ⟨p,rfl,rfl⟩) (setRow_heap w p.b cur _ _ _ g1) (λb hb _=>setRow_other w p.b b _ hb) (by simp) rfl rfl rfl (by omega) hroom g5 ?_ ?_
       ·simp only[agw,agy,af0,agZ,ahH]at hl2 ⊢; simp[hisz]at hl2 ⊢; omega
       ·intro j b hjb;rw[List.getElem?_toArray,rh _ _ _ _ hl2,hisz,ag9];rw[List.getElem?_append]at hjb;split at hjb
        ·rename_i hlt;rw[if_neg (by omega)];simpa using hptr j b hjb
        ·rename_i hge;have hj:j=p.len:=by have:=(List.getElem?_eq_some_iff.1 hjb).1;simp at this; omega
         subst hj;rw[if_pos (by simp)];have:p.len - p.subs.length=0:=by omega
         rw[this]at hjb;simp at hjb; subst hjb;simp
      ·have hcurl:(cur.toList.take p.len).length=p.len:=by simp; omega
       have holds:∀(j:Nat) u,(cur.toList.take p.len)[j]? = some u->w.cell? ((⟨p.b,0,none⟩:Addr).add j)=some u:=by
        intro j u hu;rw[eK,afL];rw[List.getElem?_take]at hu;split at hu
        ·exact aW g1 (by simpa using hu)
        ·cases hu
       have hml:p.len+1<=140737488355328:=by
        have:(xs.length+1)*1<=(xs.length+1)*by':=afq _ (by
         rcases agH by' with h0 | h0
         ·exact absurd h0 hby0
         ·exact h0)
        omega
       have hr:=run_append_grow (P:=cx.P) w t o'.type e' i zv ht hi hzv ⟨p.b,0,none⟩ p.len p.cap (cur.toList.take p.len) (by rw[hcurl,hisz,ag9]) holds ⟨pv.b,0,none⟩ 1 pv.cap [Value.pointer (some ⟨q.b,0,none⟩)] (by simp[hisz]) hcell (by omega) (by omega) (growslice_fits (by omega) (by rw[hiby,hlenp]; exact hbd));have hge:=grownCap_ge w (p.len+1) p.cap e';have hzs:zv.cells.size=1:=by have:=(hzrep (λ_=>True) default (λ_=>none)).1;simp at this; omega
       refine fin _ w.heap.size (p.len+1) (grownCap w (p.len+1) p.cap e') (p.subs++[q.b]) (f8 ho rfl rfl rfl (by rw[hsv,hvv]; exact hr)) ?_;refine hsim.adopt M.length hnm (by omega) (by omega) hmn hLn rfl (some p) hp hLm rfl rfl rfl hq hpr w.heap.size (p.len+1) (grownCap w (p.len+1) p.cap e') e' ((cur.toList.take p.len).toArray++[Value.pointer (some ⟨q.b,0,none⟩)].toArray++Builtin.zeroCells zv.cells (grownCap w (p.len+1) p.cap e' - (p.len+1))) p.subs (.inl ⟨p,rfl,rfl⟩) (.inr (afw _)) (heap_alloc_new w.drew _) (λb hb hlt=>heap_alloc_old w.drew _ hlt) (by simp) rfl rfl rfl (by omega) hge (grownCap_le_maxLen w (p.len+1) p.cap e' (by unfold maxLen; omega)) ?_ ?_
       ·have:min p.len cur.size=p.len:=by omega
        simp[size_zeroCells,hzs,this]; omega
       ·intro j b hjb;rw[List.getElem?_append]at hjb;split at hjb
        ·rename_i hlt;rw[Array.getElem?_append,if_pos (by simp only[ahA,agw,hcurl]; omega),Array.getElem?_append,if_pos (by simp only[agw,hcurl]; omega)];have:=hptr j b hjb;simp only[List.getElem?_toArray,List.getElem?_take];rw[if_pos (by omega)];simpa using this
        ·rename_i hge';have hj:j=p.len:=by have:=(List.getElem?_eq_some_iff.1 hjb).1;simp at this; omega
         subst hj;have h0:p.len - p.subs.length=0:=by omega
         rw[h0]at hjb;simp at hjb; subst hjb;rw[Array.getElem?_append,if_pos (by simp only[ahA,agw,hcurl,List.length_singleton]; omega),Array.getElem?_append,if_neg (by simp only[agw,hcurl]; omega)];simp[hcurl]
     ·have hx0:xs=[]:=afI (hsim.empty hLn hp);subst hx0;have hr:=run_append_nil (P:=cx.P) w t o'.type e' i zv ht hi hzv ⟨pv.b,0,none⟩ 1 pv.cap [Value.pointer (some ⟨q.b,0,none⟩)] (by simp[hisz]) hcell (by omega) (by omega) (by rw[hiby]; simp at hbd; omega);have hge:=grownCap_ge w 1 0 e';have hzs:zv.cells.size=1:=by have:=(hzrep (λ_=>True) default (λ_=>none)).1;simp at this; omega
      refine fin _ w.heap.size 1 (grownCap w 1 0 e') ([]++[q.b]) (f8 ho rfl rfl rfl (by rw[hsv,hvv]; exact hr)) ?_;refine hsim.adopt M.length hnm (by omega) (by omega) hmn hLn rfl none hp hLm rfl rfl rfl hq hpr w.heap.size 1 (grownCap w 1 0 e') e' ([Value.pointer (some ⟨q.b,0,none⟩)].toArray++Builtin.zeroCells zv.cells (grownCap w 1 0 e' - 1)) [] (.inr ⟨rfl,rfl⟩) (.inr (afw _)) (heap_alloc_new w.drew _) (λb hb hlt=>heap_alloc_old w.drew _ hlt) (by simp) rfl rfl rfl rfl hge (grownCap_le_maxLen w 1 0 e' (by unfold maxLen; omega)) ?_ ?_
      ·simp[size_zeroCells,hzs]; omega
      ·intro j b hjb;have hj:j=0:=by have:=(List.getElem?_eq_some_iff.1 hjb).1;simp at this; omega
       subst hj;simp at hjb; subst hjb;rw[Array.getElem?_append,if_pos (by simp)]; rfl
    ·cases h5
   ·cases h
  ·cases h
 ·cases h
theorem Em {c:Call} (hc:c.callee=.builtin .append) (h:opV cx base F M (.call c) k=true):∃ z U T,bG cx.P base F M (.call c) z U T/\k z U T=true:=by
 obtain⟨callee,args,argTypes⟩:=c;simp only at hc;subst hc;simp only[opV]at h;split at h
 ·rename_i s x t t' ha hts;obtain⟨h0,hh⟩:=and_true h;clear h;obtain rfl:t=t':=by simpa using h0
  have ha':args = #[s,x]:=by apply ahq; simpa using ha
  have ht':argTypes = #[t,t]:=by apply ahq; simpa using hts
  subst ha'; subst ht';split at hh
  ·rename_i e he;split at hh
   ·rename_i sz by' z nb hsz hby hz hnb;obtain⟨g1,g⟩:=and_true hh;obtain⟨g2,g3⟩:=and_true g;have hzl:z.length=sz:=by simpa using g1
    have hsz0:¬ sz=0:=by intro e; simp[e]at g2
    have hby0:¬ by'=0:=by intro e; simp[e]at g2
    clear hh h0 g1 g2 g;have ht:=oH he;obtain⟨i,hi,hisz⟩:=uE hsz;obtain⟨i2,hi2,hiby⟩:=qu hby;rw[hi]at hi2; cases hi2;obtain⟨i3,zv,hi3,hzv,_,hzrep⟩:=gN hz;rw[hi]at hi3; cases hi3;have hzsz:zv.cells.size=sz:=by have:=(hzrep (λ_=>True) default (λ_=>none)).1;simp at this; omega
    have hnb0:=vh hz hnb;cases hown:OE M (ev F s)with
    | true=>
     rw[hown,afl]at g3;exact El he hsz hby hz hzl hby0 g3
    | false=>
    rw[hown,afk]at g3;split at g3
    ·rename_i src hsrc;have hsrc':=Cj (M:=M) hsz0 hsrc;have fresh:∀(G:Gh) (w:World) (ρ:Rho) (L:LK) (a:Act) (o':Oper) (c:Body) (nm:Nat),o'.op=.call { callee:=.builtin .append,args:=#[s,x],argTypes:=#[t,t] } -> SimW G w ρ L->ρ nm=none->G.base<=nm->c.isOwn=false ->
       (∀ n,n ∈ (ev F x).refs->L n=aq M n)->Rep (okc G ρ L) w ρ (ev F x) (a.eval x)->a.eval s=.slice none 0 0->c.size=src.size->(∀ i z,c.at i=some z -> ∃ y,src.at i=some y/\Stands y z)->(Blk.count ⟨e,sz,c⟩)*by'<=140737488355328 ->
       ∃ v w' ρ',(execOp a.eval o').run cx.P w=.ok (.value v) w'/\SimW G w' ρ' (aI L nm (some ⟨e,sz,c⟩))/\Rep (okc G ρ' (aI L nm (some ⟨e,sz,c⟩))) w' ρ' (.slw nm) v/\Keeps (okc G ρ L) w ρ (okc G ρ' (aI L nm (some ⟨e,sz,c⟩))) w' ρ'/\(∀ n,ρ' n ≠ ρ n->n=nm):=by
      intro G w ρ L a o' c nm ho hsim hnm hbase hco hagree hx hs hcs hcat hbd;obtain⟨m,cc,ad,news,hv,hm,hnl,hn1,hnr,hcell⟩:=hsrc' G w ρ L _ hsim hagree hx;have hcount:Blk.count ⟨e,sz,c⟩=m:=wK (blk:=⟨e,sz,c⟩) (by show m*sz=c.size; rw[hcs,hm]) hsz0;rw[hcount]at hbd;have hrho:∀(q:Option Place) n,aK ρ nm q n ≠ ρ n->n=nm:=by
       intro q n hne;by_cases e:n=nm
       ·exact e
       ·simp[aK,e]at hne
      by_cases hm0:m=0
      ·subst hm0;have hr:=yB (P:=cx.P) (w:=w) o'.type ht hi none 0 0 ad cc (afw _);obtain⟨s1,s2⟩:=hsim.virt nm hnm ⟨e,sz,c⟩ (by show c.size=0; rw[hcs,<- hm]; simp);exact⟨_,w,_,f8 ho rfl rfl rfl (by rw[hs,hv]; exact hr),s1,.slv nm (by simp[aK]),s2,hrho _⟩
      ·obtain⟨b,hab,hcell2⟩:=hcell hm0; clear hcell; subst hab;have hmle:m<=140737488355328:=afG (agj m (by omega)) hbd;have hr:=run_append_nil (P:=cx.P) w t o'.type e i zv ht hi hzv b m cc news (by rw[hnl,hisz]; omega) hcell2 (by omega) (by omega) (by rw[hiby]; omega);obtain⟨d1,d2⟩:=hsim.drew;have hge:=grownCap_ge w m 0 e;obtain⟨s1,s2⟩:=d1.alloc nm hnm hbase ⟨e,sz,c⟩ (news.toArray++Builtin.zeroCells zv.cells (grownCap w m 0 e - m)) m (grownCap w m 0 e) hco
        (ahv (by simp only[ahA,agw,size_zeroCells,hzsz,hnl,<- hm,<- afM]; congr 1; omega)) (by show m*sz=c.size; rw[hcs,hm]) hge (grownCap_le_maxLen w m 0 e (by unfold maxLen; omega)) (by
         intro j y hy;have hj:j<news.length:=by rw[hnl,<- hcs]; exact Body.at_lt hy
         refine⟨news[j],by simp[Array.getElem?_append,hj],hn1 _ (agv hj),?_⟩;obtain⟨y',hy',hst⟩:=hcat j y hy;exact(hst _ _ _ _ (hnr j y' _ hy' (by simp[hj]))).mono d2)
       exact⟨_,_,_,f8 ho rfl rfl rfl (by rw[hs,hv]; exact hr),s1,.slw nm ⟨w.heap.size,m,grownCap w m 0 e,[]⟩ (by simp[aK]),d2.trans s2,hrho _⟩
     have grow:∀(G:Gh) (w:World) (ρ:Rho) (L:LK) (a:Act) (o':Oper) (n:Nat) (blk:Blk) (c0 c:Body) (l0 k0:Nat) (p:Place) (cur:Array Value),o'.op=.call { callee:=.builtin .append,args:=#[s,x],argTypes:=#[t,t] } -> SimW G w ρ L->ρ M.length=none->G.base<=M.length->G.base<=n ->
       L n=some blk->blk.e=e->blk.sz=sz->ρ n=some (some p)->w.heap[p.b]? = some (.cells cur blk.e (0,0))->p.cap*blk.sz<=cur.size->p.cap<=maxLen->l0<=k0->k0<=p.cap->l0*sz=c0.size->BodyRep (okc G ρ L) w ρ c0 cur->c0.app src=some c ->
       c.isOwn=false->(∀ m,m ∈ (ev F x).refs->L m=aq M m)->Rep (okc G ρ L) w ρ (ev F x) (a.eval x)->a.eval s=.slice (some ⟨p.b,0,none⟩) l0 k0->(Blk.count ⟨e,sz,c⟩)*by'<=140737488355328 ->
       ∃ v w' ρ',(execOp a.eval o').run cx.P w=.ok (.value v) w'/\SimW G w' ρ' (aI (aI L n none) M.length (some ⟨e,sz,c⟩))/\Rep (okc G ρ' (aI (aI L n none) M.length (some ⟨e,sz,c⟩))) w' ρ' (.slw M.length) v/\Keeps (okc G ρ L) w ρ (okc G ρ' (aI (aI L n none) M.length (some ⟨e,sz,c⟩))) w' ρ'/\(∀ n',ρ' n' ≠ ρ n'->n'=M.length):=by
      intro G w ρ L a o' n blk c0 c l0 k0 p cur ho hsim hnm hbase hbn hL hbe hbs hp c1 c2 c5 hlk hkp c3 c6 hc hco hagree hx hsv hbd;obtain⟨p1,p2⟩:=tV hc;obtain⟨m,cc,ad,news,hv,hm,hnl,hn1,hnr,hcell⟩:=hsrc' G w ρ L _ hsim hagree hx;have hmul:(l0+m)*sz=c.size:=by rw[afM,p1,<- hm,c3]
      have hcount:Blk.count ⟨e,sz,c⟩=l0+m:=wK (blk:=⟨e,sz,c⟩) hmul hsz0;rw[hcount]at hbd;have hmle:l0+m<=140737488355328:=afG (agj _ (by omega)) hbd;have hrho:∀(q:Option Place) n',aK ρ M.length q n' ≠ ρ n'->n'=M.length:=by
       intro q n' hne;by_cases e':n'=M.length
       ·exact e'
       ·simp[aK,e']at hne
      by_cases hm0:m=0
      ·subst hm0;have hr:=yB (P:=cx.P) (w:=w) o'.type ht hi (some ⟨p.b,0,none⟩) l0 k0 ad cc hlk;have hself:w.setRow p.b cur=w:=setRow_self w p.b cur _ _ c1;obtain⟨s1,s2⟩:=hsim.regrow n M.length hnm hbn blk p hL hp cur cur c1 c hco l0 rfl (by rw[hbs]; simpa using hmul) k0 hlk hkp (λj y hy=>by
        rcases p2 j y hy with⟨_,q2⟩ | ⟨q1,y',q2,_⟩
        ·exact c6 j y q2
        ·have:=Body.at_lt q2; rw[<- hm]at this; simp at this)
       rw[hself]at s1 s2;rw[show({ blk with c:=c }:Blk)=⟨e,sz,c⟩ by rw[<- hbe,<- hbs]]at s1 s2;exact⟨_,w,_,f8 ho rfl rfl rfl (by rw[hsv,hv]; exact hr),s1,.slw M.length ⟨p.b,l0,k0,[]⟩ (by simp[aK]),s2,hrho _⟩
      ·obtain⟨b,hab,hcell2⟩:=hcell hm0; clear hcell; subst hab;by_cases hroom:l0+m<=k0
       ·have hfit:l0*i.size+news.length<=cur.size:=by rw[hisz,hnl,<- hm,<- afM];refine afG (afm _ (afG hroom hkp)) ?_;rw[<- hbs]; exact c2
        rw[hbe]at c1;have hr:=run_append_room (P:=cx.P) w t o'.type e i ht hi p.b l0 k0 cur c1 b m cc news (by rw[hnl,hisz]; omega) hcell2 hn1 hroom hfit;rw[<- hbe]at c1;have hlen:l0*i.size+news.length<=cur.toList.length:=by simpa using hfit
        obtain⟨s1,s2⟩:=hsim.regrow n M.length hnm hbn blk p hL hp cur (cur.toList.take (l0*i.size)++news++cur.toList.drop (l0*i.size+news.length)).toArray c1 c hco (l0+m) (by simp only[agw,agy,af0,agZ,ahH]at hlen ⊢; omega) (by rw[hbs]; exact hmul) k0 hroom hkp (λj y hy=>by
         have hg:(cur.toList.take (l0*i.size)++news++cur.toList.drop (l0*i.size+news.length)).toArray[j]? = if l0*i.size<=j/\j<l0*i.size+news.length then news[j - l0*i.size]? else cur.toList[j]?:=by rw[List.getElem?_toArray]; exact rh _ _ _ _ hlen
         have hb':l0*i.size=c0.size:=by rw[hisz,c3]
         rw[hb']at hg ⊢;rcases p2 j y hy with⟨q1,q2⟩ | ⟨q1,y',q2,q3⟩
         ·obtain⟨u,u1,u2,u3⟩:=c6 j y q2;exact⟨u,by rw[hg,if_neg (by omega)]; simpa using u1,u2,u3⟩
         ·have hj:j - c0.size<news.length:=by rw[hnl]; exact Body.at_lt q2
          exact⟨news[j - c0.size],by rw[hg,if_pos ⟨q1,by omega⟩,List.getElem?_eq_getElem hj],hn1 _ (agv hj),q3 _ _ _ _ (hnr _ y' _ q2 (by rw[List.getElem?_eq_getElem hj]))⟩)
        rw[show({ blk with c:=c }:Blk)=⟨e,sz,c⟩ by rw[<- hbe,<- hbs]]at s1 s2;exact⟨_,_,_,f8 ho rfl rfl rfl (by rw[hsv,hv]; exact hr),s1,.slw M.length ⟨p.b,l0+m,k0,[]⟩ (by simp[aK]),s2,hrho _⟩
       ·have hfits:c0.size<=cur.size:=by rw[<- c3,<- hbs]; exact afG (afm _ (afG hlk hkp)) c2
        have hcurl:(cur.toList.take c0.size).length=c0.size:=by simp; omega
        have holds:∀(j:Nat) u,(cur.toList.take c0.size)[j]? = some u->w.cell? ((⟨p.b,0,none⟩:Addr).add j)=some u:=by
         intro j u hu;rw[eK,afL];rw[List.getElem?_take]at hu;split at hu
         ·exact aW c1 (by simpa using hu)
         ·cases hu
        have hr:=run_append_grow (P:=cx.P) w t o'.type e i zv ht hi hzv ⟨p.b,0,none⟩ l0 k0 (cur.toList.take c0.size) (by rw[hcurl,hisz,c3]) holds b m cc news (by rw[hnl,hisz]; omega) hcell2 (by omega) (by omega) (growslice_fits (by omega) (by rw[hiby]; exact hbd));obtain⟨d1,d2⟩:=hsim.drew;obtain⟨e1,e2⟩:=d1.drop n;have hge:=grownCap_ge w (l0+m) k0 e;obtain⟨s1,s2⟩:=e1.alloc M.length hnm hbase ⟨e,sz,c⟩ ((cur.toList.take c0.size).toArray++news.toArray++Builtin.zeroCells zv.cells (grownCap w (l0+m) k0 e - (l0+m))) (l0+m) (grownCap w (l0+m) k0 e) hco
         (ahv (by
          simp only[ahA,agw,size_zeroCells,hzsz,hnl,hcurl];rw[<- p1,<- hmul,<- afM]; congr 1; omega)) hmul hge (grownCap_le_maxLen w (l0+m) k0 e (by unfold maxLen; omega)) (by
          intro j y hy;rcases p2 j y hy with⟨q1,q2⟩ | ⟨q1,y',q2,q3⟩
          ·obtain⟨u,u1,u2,u3⟩:=c6 j y q2;refine⟨u,?_,u2,(u3.mono d2).mono e2⟩;rw[Array.getElem?_append,if_pos (by simp[hcurl]; omega),Array.getElem?_append,if_pos (by simp[hcurl]; omega)];simp[q1]; simpa using u1
          ·have hj:j - c0.size<news.length:=by rw[hnl]; exact Body.at_lt q2
           refine⟨news[j - c0.size],?_,hn1 _ (agv hj),((q3 _ _ _ _ (hnr _ y' _ q2 (by rw[List.getElem?_eq_getElem hj]))).mono d2).mono e2⟩;rw[Array.getElem?_append,if_pos (by simp only[ahA,agw,hcurl]; omega),Array.getElem?_append,if_neg (by simp only[agw,hcurl]; omega)];simp only[agw,hcurl,List.getElem?_toArray];rw[List.getElem?_eq_getElem hj])
        exact⟨_,_,_,f8 ho rfl rfl rfl (by rw[hsv,hv]; exact hr),s1,.slw M.length ⟨w.heap.size,l0+m,grownCap w (l0+m) k0 e,[]⟩ (by simp[aK]),(d2.trans e2).trans s2,hrho _⟩
     split at g3
     ·rename_i es;split at g3
      ·rename_i c hc;obtain⟨a1,a2⟩:=and_true g3;have hbd:=afp a1;obtain⟨p1,p2⟩:=tV hc;refine⟨_,_,_,?_,a2⟩;intro G w ρ L a o' ho hb _ hsim hops hT hnew N Q hn;have hx:=hops x (by simp[Op.operands,Call.operands]);have hs:=hops s (by simp[Op.operands,Call.operands]); rw[es]at hs;obtain⟨hnm,hbase⟩:=hnew M.length (some ⟨e,sz,c⟩) (by simp) (afw _);obtain⟨v,w',ρ',r1,r2,r3,r4,r5⟩:=fresh G w ρ L a o' c M.length ho hsim hnm (by omega) (wH hc) hT hx hs.nil_inv (by omega) (λi y hy=>by
        rcases p2 i y hy with⟨q1,_⟩ | ⟨_,q2⟩
        ·omega
        ·simpa [hnb0]using q2) hbd
       exact dY r1 (hn v w' ρ' r2 r3 r4 (λn hne=>by simp[r5 n hne]))
      ·cases g3
     ·rename_i n es;split at g3
      ·rename_i blk hM;split at g3
       ·rename_i c hc;obtain⟨a1,a2⟩:=and_true g3;obtain⟨a3,a4⟩:=and_true a2;obtain⟨a5,a6⟩:=and_true a4;obtain⟨a7,a8⟩:=and_true a6;obtain⟨a9,a10⟩:=and_true a8;have hbn:=afp a1;have hbe:blk.e=e:=by simpa using a3
        have hbs:blk.sz=sz:=by simpa using a5
        have hnx:n ∉ (ev F x).refs:=by simpa using a7
        have hbd:=afp a9;obtain⟨p1,p2⟩:=tV hc;refine⟨_,_,_,?_,a10⟩;intro G w ρ L a o' ho hb _ hsim hops hT hnew N Q hn;have hx:=hops x (by simp[Op.operands,Call.operands]);have hs:=hops s (by simp[Op.operands,Call.operands]); rw[es]at hs;obtain⟨hnm,hbase⟩:=hnew M.length (some ⟨e,sz,c⟩) (by simp) (afw _);have hL:L n=some blk:=by rw[hT n (by simp),hM]
        have hagree:∀ m,m ∈ (ev F x).refs->L m=aq M m:=λm hm=>hT m (by simp[hm])
        rcases hs.slw_inv with⟨p,hp,hsv⟩ | ⟨hp,hsv⟩
        ·obtain⟨cur,c1,c2,c3,c4,c5,c6⟩:=hsim.place hL hp;obtain⟨v,w',ρ',r1,r2,r3,r4,r5⟩:=grow G w ρ L a o' n blk blk.c c p.len p.cap p cur ho hsim hnm (by omega) (by omega) hL hbe hbs hp c1 c2 c5 c4 (afw _) (by rw[<- hbs]; exact c3) c6 hc (wH hc) hagree hx hsv hbd;exact dY r1 (hn v w' ρ' r2 r3 r4 (λn' hne=>by simp[r5 n' hne]))
        ·have hsz':=hsim.empty hL hp;obtain⟨e1,e2⟩:=hsim.drop n;obtain⟨v,w',ρ',r1,r2,r3,r4,r5⟩:=fresh G w ρ (aI L n none) a o' c M.length ho e1 hnm (by omega) (wH hc) (λm' hm'=>by
          have hne:m' ≠ n:=λe=>hnx (e ▸ hm')
          simp only[aI,hne,afS]; exact hagree m' hm') (hx.mono e2) hsv (by omega) (λj y hy=>by
          rcases p2 j y hy with⟨q1,_⟩ | ⟨_,q2⟩
          ·omega
          ·simpa [hsz']using q2) hbd
         exact dY r1 (hn v w' ρ' r2 r3 (e2.trans r4) (λn' hne=>by simp[r5 n' hne]))
       ·cases g3
      ·cases g3
     ·rename_i n o len es;split at g3
      ·rename_i blk hM;obtain⟨c0,hcut,g4⟩:=Body.cutK_sound g3;clear g3
       ·split at g4
        ·rename_i c hc;obtain⟨a0,a2⟩:=and_true g4;obtain⟨a0',a1⟩:=and_true a0;obtain⟨a3,a4⟩:=and_true a2;obtain⟨a5,a6⟩:=and_true a4;obtain⟨a7,a8⟩:=and_true a6;obtain⟨a9,a10⟩:=and_true a8;have ho0:o=0:=by simpa using a0'
         have hbn:=afp a1;have hbe:blk.e=e:=by simpa using a3
         have hbs:blk.sz=sz:=by simpa using a5
         have hnx:n ∉ (ev F x).refs:=by simpa using a7
         have hbd:=afp a9;obtain⟨p1,p2⟩:=tV hc;obtain⟨k1,k2,k3⟩:=Body.cut_sound hcut;rw[aQ]at k1 k2 k3;refine⟨_,_,_,?_,a10⟩;intro G w ρ L a o' ho hb _ hsim hops hT hnew N Q hn;have hx:=hops x (by simp[Op.operands,Call.operands]);have hs:=hops s (by simp[Op.operands,Call.operands]); rw[es]at hs;obtain⟨hnm,hbase⟩:=hnew M.length (some ⟨e,sz,c⟩) (by simp) (afw _);have hL:L n=some blk:=by rw[hT n (by simp),hM]
         have hagree:∀ m,m ∈ (ev F x).refs->L m=aq M m:=λm hm=>hT m (by simp[hm])
         rcases hs.sl_inv with⟨p,cap,of,hp,hcap,_,hoc,hsv⟩ | ⟨hp,hl0,hsv⟩
         ·obtain⟨cur,c1,c2,c3,c4,c5,c6⟩:=hsim.place hL hp;obtain⟨rfl,hcp⟩:=hoc ho0;have c6':BodyRep (okc G ρ L) w ρ c0 cur:=by
           intro j z hz;have hj:j<len*sz:=by rw[<- k1]; exact Body.at_lt hz
           rw[k3 j hj,afL]at hz;exact c6 j z hz
          obtain⟨v,w',ρ',r1,r2,r3,r4,r5⟩:=grow G w ρ L a o' n blk c0 c len cap p cur ho hsim hnm (by omega) (by omega) hL hbe hbs hp c1 c2 c5 hcap hcp k1.symm c6' hc (wH hc) hagree hx hsv hbd;exact dY r1 (hn v w' ρ' r2 r3 r4 (λn' hne=>by simp[r5 n' hne]))
         ·have hsz':c0.size=0:=by rw[k1,hl0,agE]
          obtain⟨e1,e2⟩:=hsim.drop n;obtain⟨v,w',ρ',r1,r2,r3,r4,r5⟩:=fresh G w ρ (aI L n none) a o' c M.length ho e1 hnm (by omega) (wH hc) (λm' hm'=>by
           have hne:m' ≠ n:=λe=>hnx (e ▸ hm')
           simp only[aI,hne,afS]; exact hagree m' hm') (hx.mono e2) hsv (by omega) (λj y hy=>by
           rcases p2 j y hy with⟨q1,_⟩ | ⟨_,q2⟩
           ·omega
           ·simpa [hsz']using q2) hbd
          exact dY r1 (hn v w' ρ' r2 r3 (e2.trans r4) (λn' hne=>by simp[r5 n' hne]))
        ·cases g4
      ·cases g3
     ·cases g3
    ·cases g3
   ·cases hh
  ·cases hh
 ·cases h
end
end Go.Mach
end
