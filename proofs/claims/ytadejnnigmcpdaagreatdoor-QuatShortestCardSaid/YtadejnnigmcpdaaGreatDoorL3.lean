/-
  PURE: laws of the seat's functions, taken over from another seat of mine.
  Conditions: none.
-/
import Derived.Test.YtadejnnigmcpdaaGreatDoorL2
import Derived.Test.YtadejnnigmcpdaaGreatDoorFlG
set_option linter.unusedVariables false
namespace Go.Proofs.YtadejnnigmcpdaaGreatDoor
open Go Go.Mach Ieee
set_option maxRecDepth 4000
theorem ahJ {N:Nat} (hN:1000<=N) (a b c d p q r s:Fl) (k:Bool->Bool):Lf N a b c d p q r s k=k (bA [a,b,c,d]&&bA [p,q,r,s]):=by
 unfold Lf JS;rw[pN _ (fN hN (Nat.le_of_ble_eq_true rfl))];cases bA [a,b,c,d]
 ·rfl
 ·rw[Bool.not_true,cond_false,pN _ (fN hN (Nat.le_of_ble_eq_true rfl))];cases bA [p,q,r,s] <;> rfl
theorem aji {a b c d:Fl} (h:bA [a,b,c,d]=true):ar a=true/\ar b=true/\ar c=true/\ar d=true:=by have h:=iE.1 h;exact⟨h 0 (Nat.le_of_ble_eq_true rfl),h 1 (Nat.le_of_ble_eq_true rfl),h 2 (Nat.le_of_ble_eq_true rfl),h 3 (Nat.le_of_ble_eq_true rfl)⟩
set_option maxRecDepth 4000
def jq (N:Nat) (a b c d:Fl) (κ:K4):Bool:=cond (!bA [a,b,c,d]) (κ (some 0) (some 0) (some 0) (some 0) 5) (uJ N a b c d κ)
def md (a b c d:Fl):List Fl:=[(co (some 4607182418800017408) (af (some 4611686018427387904) (ai (af c c) (af d d)))),(af (some 4611686018427387904) (co (af b c) (af a d))),(af (some 4611686018427387904) (ai (af b d) (af a c))),(af (some 4611686018427387904) (ai (af b c) (af a d))),(co (some 4607182418800017408) (af (some 4611686018427387904) (ai (af b b) (af d d)))),(af (some 4611686018427387904) (co (af c d) (af a b))),(af (some 4611686018427387904) (co (af b d) (af a c))),(af (some 4611686018427387904) (ai (af c d) (af a b))),(co (some 4607182418800017408) (af (some 4611686018427387904) (ai (af b b) (af c c))))]
set_option maxRecDepth 4000
theorem pb {N:Nat} (hN:1000<=N) (a b c:Fl) (k:Bool->Bool):ahc N a b c k=k (bA [a,b,c]):=
 iz _ (fN hN (Nat.le_of_ble_eq_true rfl)) _
def crs (a b c p q r:Fl) (k:Fl->Fl->Fl->Bool):Bool:=k (co (af b r) (af c q)) (co (af c p) (af a r)) (co (af a q) (af b p))
theorem AK (N:Nat) (a b c p q r:Fl) (k:Fl->Fl->Fl->Bool):abJ N a b c p q r k=crs a b c p q r k:=rfl
theorem pg (N:Nat) (a b c p q r:Fl) (k:Fl->Fl->Fl->Bool):Uv N a b c p q r k=crs a b c p q r k:=rfl
theorem RS (x:Fl):flt x x=false:=by
 cases x with
 | none=>rfl
 | some b=>
  show(Ieee.double.order b b==some .lt)=false;cases h:isNaN b with
  | true=>
   have:=gJ b h;rw[show Ieee.double.order b b=none from this]; rfl
  | false=>
   have:=xP (Ieee.double.read b) h;show((Ieee.double.read b).order (Ieee.double.read b)==some .lt)=false;rw[this]; rfl
def mM (a b c p q r:Fl):Fl:=ai (ai (af a p) (af b q)) (af c r)
def acf (a b c:Fl) (k:Fl->Fl->Fl->Bool):Bool:=
 cond (flt (cW b) (cW a)) (cond (flt (cW c) (cW b)) (k (some 0) (some 0) (some 4607182418800017408)) (k (some 0) (some 4607182418800017408) (some 0))) (cond (flt (cW c) (cW a)) (k (some 0) (some 0) (some 4607182418800017408)) (k (some 4607182418800017408) (some 0) (some 0)))
def Nl (a b c d:Fl):Bool:=feq a (some 0)&&(feq b (some 0)&&(feq c (some 0)&&feq d (some 0)))
def NW (U:Fl->Fl->Fl->Fl->Bool) (a b c p q r:Fl):Bool:=
 crs a b c p q r λx y z=>cond (Nl (ai (some 4607182418800017408) (mM a b c p q r)) x y z) (acf a b c λu v w=>crs a b c u v w λx y z=>U (some 0) x y z) (U (ai (some 4607182418800017408) (mM a b c p q r)) x y z)
theorem NX {N:Nat} (hN:1000<=N) (a b c p q r:Fl):∃ x y z w,(FW x/\FW y/\FW z/\FW w) /\ ∀ U:Fl->Fl->Fl->Fl->Bool,NW U a b c p q r=U x y z w:=by
 unfold NW crs acf;dsimp only;cases Nl (ai (some 4607182418800017408) (mM a b c p q r)) (co (af b r) (af c q)) (co (af c p) (af a r)) (co (af a q) (af b p))
 ·exact⟨_,_,_,_,⟨qp _ _,dr _ _,dr _ _,dr _ _⟩,λU=>rfl⟩
 ·cases flt (cW b) (cW a)
  ·cases flt (cW c) (cW a)
   ·exact⟨_,_,_,_,⟨qq,dr _ _,dr _ _,dr _ _⟩,λU=>rfl⟩
   ·exact⟨_,_,_,_,⟨qq,dr _ _,dr _ _,dr _ _⟩,λU=>rfl⟩
  ·cases flt (cW c) (cW b)
   ·exact⟨_,_,_,_,⟨qq,dr _ _,dr _ _,dr _ _⟩,λU=>rfl⟩
   ·exact⟨_,_,_,_,⟨qq,dr _ _,dr _ _,dr _ _⟩,λU=>rfl⟩
abbrev K5:=Fl->Fl->Fl->Fl->Fl->Int->Bool
theorem abm {N:Nat} (hN:1000<=N) (κ:Fl->Bool):pZ N (some 4607182418800017408) (-400) κ=κ cS:=by
 obtain⟨M,rfl⟩:∃ M,N=M+1000:=⟨N - 1000,by omega⟩
 kernel_rfl
theorem abl {N:Nat} (hN:1000<=N) (κ:Fl->Bool):pZ N (some 4607182418800017408) 400 κ=κ cG:=by
 obtain⟨M,rfl⟩:∃ M,N=M+1000:=⟨N - 1000,by omega⟩
 kernel_rfl
theorem TV (N:Nat) (x:Fl) (κ:Fl->Bool):dg N x κ=κ (cW x):=rfl
theorem Dt {N:Nat} (hN:1000<=N) (a b c:Fl) (k:Bool->Bool):abI N a b c k=k (mJ a&&(mJ b&&mJ c)):=by unfold abI Y5 mJ;simp only[TV,abm hN,abl hN];cases feq a (some 0) <;> cases feq b (some 0) <;> cases feq c (some 0) <;> cases fge (cW a) cS <;> cases fle (cW a) cG <;> cases fge (cW b) cS <;> cases fle (cW b) cG <;> cases fge (cW c) cS <;> cases fle (cW c) cG <;> rfl
def tw (w y z p C0 C1 C2:Fl):Fl:=ai (ai p (af w (af C0 (some 4611686018427387904)))) (co (af y (af C2 (some 4611686018427387904))) (af z (af C1 (some 4611686018427387904))))
def cx (b c s t:Fl):Fl:=co (af b s) (af c t)
def t0 (w x y z p q r:Fl):Fl:=tw w y z p (cx y z r q) (cx z x p r) (cx x y q p)
def t1 (w x y z p q r:Fl):Fl:=tw w z x q (cx z x p r) (cx x y q p) (cx y z r q)
def t2 (w x y z p q r:Fl):Fl:=tw w x y r (cx x y q p) (cx y z r q) (cx z x p r)
theorem abg {N:Nat} (hN:1000<=N) {w x y z p q r:Fl} (h:bA [w,x,y,z]=true) (g:bA [p,q,r]=true) (f:bA [t0 w x y z p q r,t1 w x y z p q r,t2 w x y z p q r]=true) (κ:Fl->Fl->Fl->Int->Bool) :
  A4 N w x y z p q r κ=κ (t0 w x y z p q r) (t1 w x y z p q r) (t2 w x y z p q r) 0:=by
 unfold A4 JM;rw[rC hN,h,show((!true)==false)=true from rfl,cond_true,pN _ (fN hN (Nat.le_of_ble_eq_true rfl)),g,Bool.not_true,cond_false];show Lt N (t0 w x y z p q r) (t1 w x y z p q r) (t2 w x y z p q r) _=_;unfold Lt Ka;rw[pN _ (fN hN (Nat.le_of_ble_eq_true rfl)),f];rfl
theorem ahM:Sc=Sp:=by rw[gd]; have:=QH; have:=QI; omega
theorem yp {x:Fl} (hx:ar x=true):((cZ x:Int):Rat)*Ue Sc=rv x:=by obtain⟨b,s,m,i,rfl,h⟩:=aG hx;rw[Em h,cA h,ahM,gd]; rfl
theorem Fb {a b:List Fl}:∀ n,FinL a n->FinL b n->((f7 a b (n+1):Int):Rat)*Ue (Sc+Sc)=((f7 a b n:Int):Rat)*Ue (Sc+Sc)+((cZ (a.getD n none):Int):Rat)*Ue Sc*(((cZ (b.getD n none):Int):Rat)*Ue Sc):=by intro n ha hb;show((f7 a b n+cZ (a.getD n none)*cZ (b.getD n none):Int):Rat)*_=_;rw[Rat.intCast_add,Rat.intCast_mul,cq];generalize ((f7 a b n:Int):Rat)=d;generalize ((cZ (a.getD n none):Int):Rat)=p;generalize ((cZ (b.getD n none):Int):Rat)=q;generalize Ue Sc=u;grind
theorem ZD (a b:List Fl):((f7 a b 0:Int):Rat)*Ue (Sc+Sc)=0:=by show((0:Int):Rat)*_=0;exact Rat.zero_mul _
theorem Kz {a b c:Fl} (h:FinL [a,b,c] 3):((f7 [a,b,c] [a,b,c] 3:Int):Rat)*Ue (Sc+Sc)=rv a*rv a+rv b*rv b+rv c*rv c:=by have f0:=yp (h 0 (by decide)).1;have f1:=yp (h 1 (by decide)).1;have f2:=yp (h 2 (by decide)).1;rw[Fb 2 (h.mono (by decide)) (h.mono (by decide)),Fb 1 (h.mono (by decide)) (h.mono (by decide)),Fb 0 (h.mono (by decide)) (h.mono (by decide)),ZD,f0,f1,f2,Rat.zero_add];rfl
theorem ajj {a b c:Fl} (h:bA [a,b,c]=true) (ha:FW a) (hb:FW b) (hc:FW c):FinL [a,b,c] 3:=by have h:=iE.1 h;intro i hi;exact⟨h i hi,FW3 ha hb hc i hi⟩
theorem ahh {s:Bool} {m:Nat} {i:Int} (hm:m ≠ 0) (h:i+m.log2<=0) (hi : -2400<=i):ar (some (Ieee.double.nearest s m i))=true/\Bd (rv (some (Ieee.double.nearest s m i))) 3:=by
 obtain⟨E,hE⟩:∃ E:Nat,E=2400:=⟨_,rfl⟩
 obtain⟨n1,n2⟩:=j7 s hm (i:=i) (by omega) (E:=E) (by omega) (by omega);refine⟨n1,?_⟩;have hX:m*2 ^ (i+E).toNat<=2*2 ^ E:=by
  have h1:m<2 ^ (m.log2+1):=Nat.lt_log2_self;have h2:=Nat.mul_le_mul_right (2 ^ (i+E).toNat) (Nat.le_of_lt h1);rw[<- Nat.pow_add]at h2;refine Nat.le_trans h2 ?_;have:2*2 ^ E=2 ^ (E+1):=by rw[Nat.pow_succ,Nat.mul_comm]
  rw[this];exact Nat.pow_le_pow_right (by decide) (by omega)
 have hR:((m*2 ^ (i+E).toNat:Nat):Rat)*Ue E<=2/\0<=((m*2 ^ (i+E).toNat:Nat):Rat)*Ue E:=by
  have h1:=Rat.natCast_le_natCast.2 hX;have h2:((2*2 ^ E:Nat):Rat)=2*2 ^ E:=by rw[Rat.natCast_mul,Rat.natCast_pow]; rfl
  rw[h2]at h1;have h3:=bD E;have h4:=bH E;have h5:(0:Rat)<=((m*2 ^ (i+E).toNat:Nat):Rat):=Rat.natCast_nonneg;generalize ((m*2 ^ (i+E).toNat:Nat):Rat)=x at *;generalize (2:Rat) ^ E=p at *;generalize Ue E=u at *;have h6:=Rat.mul_nonneg (by grind:0<=2*p - x) (by grind:0<=u);exact⟨by grind,Rat.mul_nonneg h5 (by grind)⟩
 rw[aJ]at n2;generalize hXX:((m*2 ^ (i+E).toNat:Nat):Rat)=x at *;have hb:Bd ((if s=true then -x else x)*Ue E) 2:=by
  generalize hu:Ue E=u at *;cases s
  ·rw[if_neg (by decide)]; exact⟨by grind,by grind⟩
  ·rw[if_pos rfl,Rat.neg_mul]; exact⟨by grind,by grind⟩
 have h:=n2 2 hb;have he:=lS;have he0:=dD;have hw:(if -1074<=i then(0:Rat)else eta)<=eta:=by split <;> grind
 generalize (if -1074<=i then(0:Rat)else eta)=w at *;generalize (if s=true then -x else x)*Ue E=z at *;obtain⟨a,b⟩:=hb;obtain⟨c,d⟩:=h;exact⟨by grind,by grind⟩
theorem LB {N:Nat} {xs:List Fl} (hf:vE xs) (h0:feq (cQ xs xs.length) (some 0)=false) :
  ∃ fr e,(∀ κ:Fl->Int->Bool,kb N (cQ xs xs.length) κ=κ fr e) /\ -1200<=e/\e<=1200 /\
   (∀ i,i<xs.length->ar (aF (xs.getD i none) (1 - e))=true/\Bd (rv (aF (xs.getD i none) (1 - e))) 3) /\
   ∃ j,j<xs.length/\1<=rv (aF (xs.getD j none) (1 - e))*rv (aF (xs.getD j none) (1 - e)):=by
 obtain⟨hm,hmw⟩:=j6 hf xs.length (Nat.le_refl _);obtain⟨hle,hone⟩:=wj hf xs.length (Nat.le_refl _);obtain⟨fr,e,he,he1,he2,he3⟩:=oh N hm hmw h0;obtain⟨b,s,m,i,hb,hr⟩:=aG hm;have hei:=he3 b s m i hb hr;have hm0:m ≠ 0:=by rw[hb,ni hr]at h0;exact of_decide_eq_false h0
 have hgi:=bg hr;rcases hone with e0 | ⟨j,hj,ej⟩
 ·rw[e0]at h0;exact absurd h0 (by decide)
 obtain⟨hjf,hjw⟩:=hf j hj;obtain⟨bj,sj,mj,ij,hbj,hrj⟩:=aG hjf;have hsame:mj=m/\ij=i:=by obtain⟨c,hc,hcw,hcr⟩:=jT (hjw bj hbj) hrj;rw[hbj,hc]at ej;rw[ej]at hb;cases hb;rw[hcr]at hr;cases hr;exact⟨rfl,rfl⟩
 obtain⟨rfl,rfl⟩:=hsame;have hvm:vl (cQ xs xs.length)=((mj*2 ^ (ij+1074).toNat:Nat):Int):=by rw[ej]; exact nS hjf hjw hbj hrj
 refine⟨fr,e,he,he1,he2,λl hl=>?_,j,hj,?_⟩
 ·obtain⟨hlf,hlw⟩:=hf l hl;obtain⟨bl,sl,ml,il,hbl,hrl⟩:=aG hlf;rw[hbl,e_ hrl];have hgl:=bg hrl;by_cases hz:ml=0
  ·rw[hz,cv];obtain⟨w1,w2⟩:=gM sl;refine⟨w1,?_⟩;rw[w2]; unfold Bd; grind
  ·have hv:=hle l hl;rw[hvm,nS hlf hlw hbl hrl]at hv;have:=KL hz (Int.ofNat_le.1 hv) hgi hgl;exact ahh hz (by omega) (by omega)
 ·rw[hbj,e_ hrj];have hpm:=dn hrj;obtain⟨h1,h2⟩:=BP hm0 hpm.2;have e2:Ieee.double.nearest sj mj (ij+(1 - e))=Ieee.double.nearest sj (mj <<< (52 - mj.log2)) (-52):=by
   rw[<- jt sj mj (ij+(1 - e))];congr 1;have:mj.log2<=52:=by have:=(Nat.log2_lt hm0).2 (by simpa using hpm.2:mj<2 ^ 53);omega
   omega
  have e3:Ieee.double.nearest sj (mj <<< (52 - mj.log2)) (-52)=Ieee.double.word sj (((-52:Int)+1075).toNat*4503599627370496+(mj <<< (52 - mj.log2) - 4503599627370496)):=
   ff (dY sj (by omega)) (dA sj _ _ ⟨h1,h2⟩ (by omega))
  rw[e2,e3,cA (dA sj _ _ ⟨h1,h2⟩ (by omega)),aJ];generalize mj <<< (52 - mj.log2)=M at *;generalize hA:((-52:Int)+1074).toNat=a;have hS:Sp=a+52:=by rw[gd,<- hA]; decide
  have hval:((M*2 ^ a:Nat):Rat)*Ue Sp=(M:Rat)*Ue 52:=by rw[hS,Rat.natCast_mul,Rat.natCast_pow,cq];have h3:((2:Nat):Rat) ^ a*Ue a=1:=bD a;rw[Rat.mul_assoc,<- Rat.mul_assoc _ (Ue a),h3,Rat.one_mul]
  have hM:1<=(M:Rat)*Ue 52:=by
   have h4:=bD 52;have h5:(2:Rat) ^ 52=4503599627370496:=by decide +kernel
   rw[h5]at h4;have h6:=Rat.natCast_le_natCast.2 h1;have h7:((4503599627370496:Nat):Rat)=4503599627370496:=rfl;rw[h7]at h6;have h8:=bH 52;generalize (M:Rat)=x at *;generalize Ue 52=u at *;have:=Rat.mul_nonneg (by grind:0<=x - 4503599627370496) (by grind:0<=u);grind
  have hsq:((if sj=true then -((M*2 ^ a:Nat):Rat)else((M*2 ^ a:Nat):Rat))*Ue Sp)*((if sj=true then -((M*2 ^ a:Nat):Rat)else((M*2 ^ a:Nat):Rat))*Ue Sp)=((M:Rat)*Ue 52)*((M:Rat)*Ue 52):=by
   rw[<- hval];generalize ((M*2 ^ a:Nat):Rat)=x;generalize Ue Sp=u;cases sj
   ·rfl
   ·rw[if_pos rfl]; grind
  rw[hsq];generalize (M:Rat)*Ue 52=x at *;have:=Rat.mul_nonneg (by grind:0<=x - 1) (by grind:0<=x - 1);grind
def U4 (x y z w:Fl):Prop:=bA [x,y,z,w]=true/\Bd (rv x*rv x+rv y*rv y+rv z*rv z+rv w*rv w - 1) (1 / 562949953421312)
def Res (f:K4->Bool):Prop:=∃ x y z w n,(FW x/\FW y/\FW z/\FW w)/\(n=0->U4 x y z w) /\ ∀ κ,f κ=κ x y z w n
theorem CM {a b c d:Fl} (h0:ar a=true) (h1:ar b=true) (h2:ar c=true) (h3:ar d=true):bA [a,b,c,d]=true:=by
 refine iE.2 λi hi=>?_
 have hi:i<4:=hi
 match i,hi with
 | 0,_=>exact h0
 | 1,_=>exact h1
 | 2,_=>exact h2
 | 3,_=>exact h3
theorem ip {xs:List Fl} (hf:vE xs) (h0:feq (cQ xs xs.length) (some 0)=true) {i:Nat} (hi:i<xs.length):rv (xs.getD i none)=0:=by
 obtain⟨hm,hmw⟩:=j6 hf xs.length (Nat.le_refl _);obtain⟨hle,-⟩:=wj hf xs.length (Nat.le_refl _);have h1:=(pB hm jv.1).1 h0;have h2:=acJ.2 h1;have h3:vl (some 0)=0:=by have:=jL;rw[qj this,bB]
 obtain⟨hf1,hw1⟩:=hf i hi;obtain⟨b,s,m,j,hb,hr⟩:=aG hf1;have h4:=hle i hi;rw[h2,h3,nS hf1 hw1 hb hr]at h4;have h5:m*2 ^ (j+1074).toNat=0:=by omega
 have h6:m=0:=by
  rcases Nat.mul_eq_zero.1 h5 with h | h
  ·exact h
  ·exact absurd h (Nat.pos_iff_ne_zero.1 (Nat.two_pow_pos _))
 rw[hb,cA hr,h6,bB];exact Rat.zero_mul _
theorem abq {a b c d:Rat} (h0:0<=a) (h1:0<=b) (h2:0<=c) (h3:0<=d) (h:1<=a\/1<=b\/1<=c\/1<=d):1<=a+b+c+d:=by rcases h with h | h | h | h <;> grind
theorem ahI {f g:K4->Bool} (h:∀ κ,f κ=g κ) (hg:Res g):Res f:=by obtain⟨x,y,z,w,n,h1,h2,h3⟩:=hg;exact⟨x,y,z,w,n,h1,h2,λκ=>by rw[h,h3]⟩
theorem TY (N:Nat) {g:Fl} (hg:NN g) {e:Int} (h1 : -5000<=e) (h2:e<=5000) (κ:Fl->Bool):pZ N g e κ=κ (aF g e):=by
 obtain⟨b,rfl,hw,h | h⟩:=hg
 ·obtain⟨m,i,h⟩:=h;have hf:=fS h;have hF:FW (some b):=λc hc=>by cases hc; exact hw
  exact ik N hf hF h1 h2 κ
 ·have hb:=Dm hw h;have e:aF (some b) e=some b:=by unfold aF; simp only[h]
  rw[e,hb];exact pd N _ κ
theorem ii {x y:Int} {u:Rat} (hu:0<u) (h:((x:Int):Rat)*u<=((y:Int):Rat)*u):x<=y:=by
 rw[<- Rat.intCast_le_intCast];generalize ((x:Int):Rat)=a at *;generalize ((y:Int):Rat)=b at *;rcases (Rat.le_total:a<=b\/b<=a)with k | k
 ·exact k
 ·by_cases e:a=b
  ·rw[e]; exact Rat.le_refl
  ·have:=Rat.mul_pos (by grind:0<a - b) hu;grind
theorem ahj {z:Int} (h:z<=0):oG z<=0:=by
 unfold oG;split
 ·decide
 ·rw[if_pos (by omega)]; decide
theorem DJ {m:Nat} (hm:m ≠ 0) {i:Int} (hi : -1074<=i) {k:Int} (hk:i+m.log2+k=0) (h1 : -1200<=k) (h2:k<=1200):1<=((m*2 ^ (i+1074).toNat:Nat):Rat)*Ue Sp*pz k/\((m*2 ^ (i+1074).toNat:Nat):Rat)*Ue Sp*pz k<=2:=by
 have hlg:=Nat.log2_self_le hm;have hlg2:m<2 ^ (m.log2+1):=Nat.lt_log2_self;have hK:=zF;have hS:=gd;have e1:((m*2 ^ (i+1074).toNat:Nat):Rat)*Ue Sp*pz k=((m*2 ^ ((i+1074).toNat+(k+(K2:Int)).toNat):Nat):Rat)*Ue (Sp+K2):=by unfold pz;rw[Nat.pow_add,cq,Rat.natCast_mul,Rat.natCast_mul,Rat.natCast_mul,Rat.natCast_pow _ (k+(K2:Int)).toNat];have e2:((2:Nat):Rat) ^ (k+(K2:Int)).toNat=(2:Rat) ^ (k+(K2:Int)).toNat:=rfl;rw[e2];generalize ((2 ^ (i+1074).toNat:Nat):Rat)=a;generalize (2:Rat) ^ (k+(K2:Int)).toNat=c;generalize Ue Sp=u;generalize Ue K2=v;generalize (m:Rat)=n;grind
 have hle:2 ^ (Sp+K2)<=m*2 ^ ((i+1074).toNat+(k+(K2:Int)).toNat):=by have:=Nat.mul_le_mul_right (2 ^ ((i+1074).toNat+(k+(K2:Int)).toNat)) hlg;rw[<- Nat.pow_add]at this;refine Nat.le_trans (Nat.pow_le_pow_right (by decide) ?_) this;omega
 have hge:m*2 ^ ((i+1074).toNat+(k+(K2:Int)).toNat)<=2*2 ^ (Sp+K2):=by
  have:=Nat.mul_le_mul_right (2 ^ ((i+1074).toNat+(k+(K2:Int)).toNat)) (Nat.le_of_lt hlg2);rw[<- Nat.pow_add]at this;refine Nat.le_trans this ?_;have e3:2*2 ^ (Sp+K2)=2 ^ (Sp+K2+1):=by rw[Nat.pow_succ,Nat.mul_comm]
  rw[e3];refine Nat.pow_le_pow_right (by decide) ?_;omega
 rw[e1];have c1:=Rat.natCast_le_natCast.2 hle;have c2:=Rat.natCast_le_natCast.2 hge;have c3:((2*2 ^ (Sp+K2):Nat):Rat)=2*2 ^ (Sp+K2):=by rw[Rat.natCast_mul,Rat.natCast_pow]; rfl
 have c4:((2 ^ (Sp+K2):Nat):Rat)=2 ^ (Sp+K2):=by rw[Rat.natCast_pow]; rfl
 rw[c4]at c1;rw[c3]at c2;have u1:=bD (Sp+K2);have u2:=bH (Sp+K2);generalize ((m*2 ^ ((i+1074).toNat+(k+(K2:Int)).toNat):Nat):Rat)=X at *;generalize (2:Rat) ^ (Sp+K2)=P at *;generalize Ue (Sp+K2)=U at *;have k1:=Rat.mul_nonneg (by grind:0<=X - P) (by grind:0<=U);have k2:=Rat.mul_nonneg (by grind:0<=2*P - X) (by grind:0<=U);constructor <;> grind
theorem Po {x:Fl} (hf:ar x=true) (hw:FW x) {V:Int} (h:vl (cW x)<=V):Bd (rv x) ((V:Rat)*Ue Sp):=by
 obtain⟨b,s,m,i,rfl,hr⟩:=aG hf;rw[nS hf hw rfl hr]at h;rw[cA hr,aJ];have h1:=Rat.intCast_le_intCast.2 h;rw[Rat.intCast_natCast]at h1;have h2:=bH Sp;have h3:(0:Rat)<=((m*2 ^ (i+1074).toNat:Nat):Rat):=Rat.natCast_nonneg;generalize ((m*2 ^ (i+1074).toNat:Nat):Rat)=X at *;generalize ((V:Int):Rat)=W at *;generalize Ue Sp=U at *;have k1:=Rat.mul_nonneg (by grind:0<=W - X) (by grind:0<=U);have k2:=Rat.mul_nonneg h3 (by grind:0<=U);cases s
 ·rw[if_neg (by decide)]; exact⟨by grind,by grind⟩
 ·rw[if_pos rfl]; exact⟨by grind,by grind⟩
theorem Bb {N:Nat} {xs:List Fl} (hf:vE xs) (h0:feq (cQ xs xs.length) (some 0)=false) :
  ∃ fr e,(∀ κ:Fl->Int->Bool,kb N (cQ xs xs.length) κ=κ fr e) /\ -1200<=e/\e<=1200 /\
   ∃ G:Rat,0<G/\1<=G*pz (1 - e)/\G*pz (1 - e)<=2/\(∀ i,i<xs.length->Bd (rv (xs.getD i none)) G) /\ ∃ j,j<xs.length/\(rv (xs.getD j none)=G\/rv (xs.getD j none) = -G):=by
 obtain⟨hm,hmw⟩:=j6 hf xs.length (Nat.le_refl _);obtain⟨hle,hone⟩:=wj hf xs.length (Nat.le_refl _);obtain⟨fr,e,he,he1,he2,he3⟩:=oh N hm hmw h0;obtain⟨b,s,m,i,hb,hr⟩:=aG hm;have hei:=he3 b s m i hb hr;have hm0:m ≠ 0:=by rw[hb,ni hr]at h0;exact of_decide_eq_false h0
 have hgi:=bg hr;rcases hone with e0 | ⟨j,hj,ej⟩
 ·rw[e0]at h0;exact absurd h0 (by decide)
 obtain⟨hjf,hjw⟩:=hf j hj;obtain⟨bj,sj,mj,ij,hbj,hrj⟩:=aG hjf;have hsame:mj=m/\ij=i:=by obtain⟨c,hc,hcw,hcr⟩:=jT (hjw bj hbj) hrj;rw[hbj,hc]at ej;rw[ej]at hb;cases hb;rw[hcr]at hr;cases hr;exact⟨rfl,rfl⟩
 obtain⟨rfl,rfl⟩:=hsame;have hvm:vl (cQ xs xs.length)=((mj*2 ^ (ij+1074).toNat:Nat):Int):=by rw[ej]; exact nS hjf hjw hbj hrj
 refine⟨fr,e,he,he1,he2,((mj*2 ^ (ij+1074).toNat:Nat):Rat)*Ue Sp,?_,?_,?_,λl hl=>?_,j,hj,?_⟩
 ·exact Rat.mul_pos (Rat.natCast_pos.2 (Nat.mul_pos (Nat.pos_of_ne_zero hm0) (Nat.two_pow_pos _))) (bH _)
 ·exact(DJ hm0 hgi (k:=1 - e) (by omega) (by omega) (by omega)).1
 ·exact(DJ hm0 hgi (k:=1 - e) (by omega) (by omega) (by omega)).2
 ·obtain⟨hlf,hlw⟩:=hf l hl;have hv:=hle l hl;rw[hvm]at hv;have:=Po hlf hlw hv;rw[Rat.intCast_natCast]at this;exact this
 ·rw[hbj,cA hrj,aJ];cases sj
  ·left; rw[if_neg (by decide)]
  ·right; rw[if_pos rfl,Rat.neg_mul]
theorem w_ {N:Nat} {x:Fl} {f f':Fl} {e e':Int} (h:∀ κ:Fl->Int->Bool,kb N x κ=κ f e) (g:∀ κ:Fl->Int->Bool,kb N x κ=κ f' e'):e=e':=by have h1:=h (λ_ n=>decide (n=e));have h2:=g (λ_ n=>decide (n=e));rw[h1]at h2;have:decide (e'=e)=true:=h2.symm.trans (decide_eq_true rfl);exact(of_decide_eq_true this).symm
theorem Pl {N:Nat} (hN:1000<=N) {a b c d:Fl} (ha:FW a) (hb:FW b) (hc:FW c) (hd:FW d) (hall:bA [a,b,c,d]=true) (hne:rv a ≠ 0\/rv b ≠ 0\/rv c ≠ 0\/rv d ≠ 0) :
  ∃(k:Int) (g:Fl) (G:Rat),-2000<=k/\(∀ κ,uJ N a b c d κ=κ (fdiv (aF a k) g) (fdiv (aF b k) g) (fdiv (aF c k) g) (fdiv (aF d k) g) 0) /\
   (FW (fdiv (aF a k) g)/\FW (fdiv (aF b k) g)/\FW (fdiv (aF c k) g)/\FW (fdiv (aF d k) g))/\U4 (fdiv (aF a k) g) (fdiv (aF b k) g) (fdiv (aF c k) g) (fdiv (aF d k) g) /\
   0<rv g/\(Bd (rv (fdiv (aF a k) g) - rv (aF a k) / rv g) (205 / 100*uu)/\Bd (rv (aF a k) / rv g) kap)/\(Bd (rv (fdiv (aF b k) g) - rv (aF b k) / rv g) (205 / 100*uu)/\Bd (rv (aF b k) / rv g) kap)/\(Bd (rv (fdiv (aF c k) g) - rv (aF c k) / rv g) (205 / 100*uu)/\Bd (rv (aF c k) / rv g) kap)/\(Bd (rv (fdiv (aF d k) g) - rv (aF d k) / rv g) (205 / 100*uu)/\Bd (rv (aF d k) / rv g) kap) /\
   Bd (Nq (rv (aF a k) / rv g) (rv (aF b k) / rv g) (rv (aF c k) / rv g) (rv (aF d k) / rv g) - 1) (81 / 10*uu) /\
   0<G/\1<=G*pz k/\G*pz k<=2/\Bd (rv a) G/\Bd (rv b) G/\Bd (rv c) G/\Bd (rv d) G/\(rv a=G\/rv a = -G\/rv b=G\/rv b = -G\/rv c=G\/rv c = -G\/rv d=G\/rv d = -G):=by
 have hf:=wg (FW4 ha hb hc hd) hall;have h0:feq (cQ [a,b,c,d] 4) (some 0)=false:=by
  cases h0:feq (cQ [a,b,c,d] 4) (some 0)with
  | false=>rfl
  | true=>
   exfalso;rcases hne with h | h | h | h
   ·exact h (ip hf h0 (i:=0) (Nat.le_of_ble_eq_true rfl))
   ·exact h (ip hf h0 (i:=1) (Nat.le_of_ble_eq_true rfl))
   ·exact h (ip hf h0 (i:=2) (Nat.le_of_ble_eq_true rfl))
   ·exact h (ip hf h0 (i:=3) (Nat.le_of_ble_eq_true rfl))
 obtain⟨fr,e,he,he1,he2,hfin,j,hj,hge⟩:=LB (N:=N) hf h0;obtain⟨fr',e',he',-,-,G,G0,G1,G2,G3,j',hj',hge'⟩:=Bb (N:=N) hf h0;have hee:=w_ he he';subst hee;have q:=X8 hN hall hf h0 he he1 he2;obtain⟨f0,b0⟩:=hfin 0 (Nat.le_of_ble_eq_true rfl);obtain⟨f1,b1⟩:=hfin 1 (Nat.le_of_ble_eq_true rfl);obtain⟨f2,b2⟩:=hfin 2 (Nat.le_of_ble_eq_true rfl);obtain⟨f3,b3⟩:=hfin 3 (Nat.le_of_ble_eq_true rfl);have z0:=ak (rv (aF a (1 - e)));have z1:=ak (rv (aF b (1 - e)));have z2:=ak (rv (aF c (1 - e)));have z3:=ak (rv (aF d (1 - e)));have h1:1<=rv (aF a (1 - e))*rv (aF a (1 - e))+rv (aF b (1 - e))*rv (aF b (1 - e))+rv (aF c (1 - e))*rv (aF c (1 - e))+rv (aF d (1 - e))*rv (aF d (1 - e)):=by
  match j,hj,hge with
  | 0,_,h=>exact abq z0 z1 z2 z3 (.inl h)
  | 1,_,h=>exact abq z0 z1 z2 z3 (.inr (.inl h))
  | 2,_,h=>exact abq z0 z1 z2 z3 (.inr (.inr (.inl h)))
  | 3,_,h=>exact abq z0 z1 z2 z3 (.inr (.inr (.inr h)))
 obtain⟨⟨g0,g1,g2,g3⟩,hu⟩:=Pm f0 f1 f2 f3 b0 b1 b2 b3 h1 rfl;obtain⟨s,t0,t1,t2,t3,tN⟩:=Ip f0 f1 f2 f3 b0 b1 b2 b3 h1 rfl;refine⟨1 - e,_,G,by omega,q,⟨vX _ _,vX _ _,vX _ _,vX _ _⟩,⟨CM g0 g1 g2 g3,hu⟩,s,t0,t1,t2,t3,tN,G0,G1,G2,G3 0 (Nat.le_of_ble_eq_true rfl),G3 1 (Nat.le_of_ble_eq_true rfl),G3 2 (Nat.le_of_ble_eq_true rfl),G3 3 (Nat.le_of_ble_eq_true rfl),?_⟩
 match j',hj',hge' with
 | 0,_,.inl h=>exact .inl h
 | 0,_,.inr h=>exact .inr (.inl h)
 | 1,_,.inl h=>exact .inr (.inr (.inl h))
 | 1,_,.inr h=>exact .inr (.inr (.inr (.inl h)))
 | 2,_,.inl h=>exact .inr (.inr (.inr (.inr (.inl h))))
 | 2,_,.inr h=>exact .inr (.inr (.inr (.inr (.inr (.inl h)))))
 | 3,_,.inl h=>exact .inr (.inr (.inr (.inr (.inr (.inr (.inl h))))))
 | 3,_,.inr h=>exact .inr (.inr (.inr (.inr (.inr (.inr (.inr h))))))
theorem alU {W:Fl} {P:Rat} (hW:Ap W P (27 / 2*uu)) (hP:Bd P kap) {k:Int} (hk : -2000<=k) (h1:99 / 100<=pz k) (h5:pz k<=5):Bd (rv (aF W k) / pz k - P) (147 / 10*uu):=by
 obtain⟨α,α0,α1,α2⟩:=Bq (rv W);have hz:=xR k;have hWb:=hW.bd hP;have hα:α<=1002 / 1000:=by
  rcases (Rat.le_total:α<=1002 / 1000\/1002 / 1000<=α)with h | h
  ·exact h
  ·have h7:=hWb.sq;rw[<- α2]at h7;have:=Rat.mul_nonneg (by grind:0<=α - 1002 / 1000) (by grind:0<=α+1002 / 1000);grind
 have hzb:Bd (pz k) (pz k):=by unfold Bd; exact⟨by grind,Rat.le_refl⟩
 have hb:=α1.mul hzb;have hB:=jg;have hbig:α*pz k<=Bg:=by have:=Rat.mul_nonneg (by grind:0<=1002 / 1000 - α) (by grind:0<=pz k);grind
 have h:=yc hW.1 hk (hb.mono hbig) _ hb;have he:=lS;have he0:=dD;have h2:=ak1 hz h1 h (Rat.le_of_lt he0);obtain⟨a1,a2⟩:=h2;obtain⟨b1,b2⟩:=hW.2;generalize rv (aF W k) / pz k=t at *;clear h hb hbig hzb hB hWb α1 α2 hW;constructor <;> grind
theorem Bi {w x y z p q r:Fl} {M:Rat} (hR:su M) (h:bA [w,x,y,z]=true) (hu:Bd (Nq (rv w) (rv x) (rv y) (rv z) - 1) (1 / 1000)) (fp:ar p=true) (fq:ar q=true) (fr:ar r=true) (bp:Bd (rv p) M) (bq:Bd (rv q) M) (br:Bd (rv r) M) :
  Ap (t0 w x y z p q r) (T0 (rv w) (rv x) (rv y) (rv z) (rv p) (rv q) (rv r)) (75*uu*M)/\Ap (t1 w x y z p q r) (T0 (rv w) (rv y) (rv z) (rv x) (rv q) (rv r) (rv p)) (75*uu*M)/\Ap (t2 w x y z p q r) (T0 (rv w) (rv z) (rv x) (rv y) (rv r) (rv p) (rv q)) (75*uu*M):=by
 obtain⟨fw,fx,fy,fz⟩:=aji h;obtain⟨bw,bx,bY,bz⟩:=Kq hu;obtain⟨⟨a0,b0⟩,⟨a1,b1⟩,⟨a2,b2⟩⟩:=Pj hR fw bw fx bx fy bY fz bz fp bp fq bq fr br;exact⟨qg hR fw bw fy bY fz bz fp bp a0 a1 a2 b0 b1 b2,qg hR fw bw fz bz fx bx fq bq a1 a2 a0 b1 b2 b0,qg hR fw bw fx bx fy bY fr br a2 a0 a1 b2 b0 b1⟩
def clQ (N:Nat) (S:Int × Int) (k:Bool->Bool) (T:Bool) (e:Int) (g:Bool) (l:List Int):Bool:=
 O3 N e e g l (λe2 g2 l2=>(aw .i64 (2*(-42)))&&(Lo N (2*(-42)) (λg3 l3=>sZ0 N S.1 (2*(-42)) (decide (S.2<0)) (ao S.2.natAbs) g3 l3 (λe4 g4 l4=>Gj N e2 e4 g2 l2 g4 l4 (λr=>cond (decide (r>0)) (k false) T)))))
theorem F9 {N:Nat} (hN:1000<=N) {E B:Nat} {x:Int × Int} (hx:Ex E B x) (hB:B<=20000) (k:Bool->List Int->Bool):la N x.1 (decide (x.2<0)) (ao x.2.natAbs) k=k (decide ((iH x).2<0)) (ao (iH x).2.natAbs):=by unfold la P6;rw[AG _ _ _ (ib hN (by omega) hx.2.2),kY];rfl
theorem T8 (N:Nat) (e:Int) (g:Bool) (l:List Int) (k:Int->Bool->List Int->Bool):O3 N e e g l k=sZ0 N e e g l g l k:=rfl
theorem Ug:Ap (some 4607182418800017408) 1 0:=by
 obtain⟨h1,h2⟩:=Gg DK (n:=0) (by decide);have e4:Ue 0=1:=by have:=bD 0;rw[show(2:Rat) ^ 0=1 by decide +kernel,Rat.one_mul]at this;exact this
 refine⟨h1,?_⟩;rw[h2,e4]; unfold Bd; grind
theorem qh {x:Fl} {a:Rat} (h:Ap x a (81 / 20*uu)/\Bd a (203 / 100)):Ap (af (some 4611686018427387904) x) (2*a) (123 / 10*uu)/\Bd (2*a) (407 / 100):=by
 have h22:Bd (2:Rat) 2:=by unfold Bd; grind
 have hB:=jg;have he:=lS;have he0:=dD;refine⟨(Ap.mul X6 h.1 h22 h.2 (by grind) (h:=uu / 1000) (by grind) (.inr (by grind))).mono (by grind),(h22.mul h.2).mono (by grind)⟩
theorem ue {y z:Fl} (fy:ar y=true) (fz:ar z=true) (bY:Bd (rv y) kap) (bz:Bd (rv z) kap):Ap (co (some 4607182418800017408) (af (some 4611686018427387904) (ai (af y y) (af z z)))) (1 - 2*(rv y*rv y+rv z*rv z)) (18*uu)/\Bd (1 - 2*(rv y*rv y+rv z*rv z)) (508 / 100):=by
 have h1:=qh (m5 (E:=81 / 20*uu) (D:=203 / 100) (dv fy fy bY bY) (dv fz fz bz bz) (by grind) (by grind) (by grind));have h2:Ap (some 4607182418800017408) 1 0/\Bd (1:Rat) 1:=⟨Ug,by unfold Bd; grind⟩
 exact nM h2 h1 (by grind) (by grind) (by grind)
theorem uE {x y w z:Fl} (fx:ar x=true) (fy:ar y=true) (fw:ar w=true) (fz:ar z=true) (bx:Bd (rv x) kap) (bY:Bd (rv y) kap) (bw:Bd (rv w) kap) (bz:Bd (rv z) kap) :
  (Ap (af (some 4611686018427387904) (co (af x y) (af w z))) (2*(rv x*rv y - rv w*rv z)) (18*uu)/\Bd (2*(rv x*rv y - rv w*rv z)) (508 / 100)) /\
  (Ap (af (some 4611686018427387904) (ai (af x y) (af w z))) (2*(rv x*rv y+rv w*rv z)) (18*uu)/\Bd (2*(rv x*rv y+rv w*rv z)) (508 / 100)):=by
 have h1:=qh (nM (E:=81 / 20*uu) (D:=203 / 100) (dv fx fy bx bY) (dv fw fz bw bz) (by grind) (by grind) (by grind));have h2:=qh (m5 (E:=81 / 20*uu) (D:=203 / 100) (dv fx fy bx bY) (dv fw fz bw bz) (by grind) (by grind) (by grind));exact⟨⟨h1.1.mono (by grind),h1.2.mono (by grind)⟩,⟨h2.1.mono (by grind),h2.2.mono (by grind)⟩⟩
theorem w6 {m p:Fl} {e M:Rat} (hR:su M) (h:Ap m e (18*uu)/\Bd e (508 / 100)) (fp:ar p=true) (bp:Bd (rv p) M):Ap (af m p) (e*rv p) (24*uu*M)/\Bd (e*rv p) (508 / 100*M):=by
 obtain⟨h0,h1,h2⟩:=hR;refine⟨(Ap.mul h.1 (Ap.self fp) h.2 bp (by grind) (h:=uu*M / 1000) (by grind) ?_).mono (by grind),h.2.mul bp⟩;rcases h1 with h | h
 ·left; rw[h]; grind
 ·right; exact h
theorem xT {m0 m1 m2 p q r:Fl} {e0 e1 e2 M:Rat} (hR:su M) (h0:Ap m0 e0 (18*uu)/\Bd e0 (508 / 100)) (h1:Ap m1 e1 (18*uu)/\Bd e1 (508 / 100)) (h2:Ap m2 e2 (18*uu)/\Bd e2 (508 / 100)) (fp:ar p=true) (fq:ar q=true) (fr:ar r=true) (bp:Bd (rv p) M) (bq:Bd (rv q) M) (br:Bd (rv r) M) :
  Ap (ai (ai (af m0 p) (af m1 q)) (af m2 r)) (e0*rv p+e1*rv q+e2*rv r) (100*uu*M):=by
 have a:=w6 hR h0 fp bp;have b:=w6 hR h1 fq bq;have c:=w6 hR h2 fr br;obtain⟨r0,r1,r2⟩:=hR;have ab:=(Ap.add a.1 b.1 (a.2.add b.2) (by grind)).mono (f:=60*uu*M) (by grind);exact(Ap.add ab c.1 ((a.2.add b.2).add c.2) (by grind)).mono (by grind)
theorem Rc {o A D B t e1 e2 e3 e4 E:Rat} (h1:Bd (o - A) e1) (h2:Bd (A - D) e2) (h3:Bd (B - D) e3) (h4:Bd (t - B) e4) (hE:e1+e2+e3+e4<=E):Bd (o - t) E:=by obtain⟨a1,a2⟩:=h1;obtain⟨b1,b2⟩:=h2;obtain⟨c1,c2⟩:=h3;obtain⟨d1,d2⟩:=h4;constructor <;> grind
theorem Rb {o A D B e1 e2 e3 E:Rat} (h1:Bd (o - A) e1) (h2:Bd (A - D) e2) (h3:Bd (D - B) e3) (hE:e1+e2+e3<=E):Bd (o - B) E:=by obtain⟨a1,a2⟩:=h1;obtain⟨b1,b2⟩:=h2;obtain⟨c1,c2⟩:=h3;constructor <;> grind
theorem Q_ {o A B e1 e2 E:Rat} (h1:Bd (o - A) e1) (h2:Bd (B - A) e2) (hE:e1+e2<=E):Bd (o - B) E:=by obtain⟨a1,a2⟩:=h1;obtain⟨b1,b2⟩:=h2;constructor <;> grind
theorem kP {a b c:Fl} (h0:ar a=true) (h1:ar b=true) (h2:ar c=true):bA [a,b,c]=true:=by
 refine iE.2 λi hi=>?_
 have hi:i<3:=hi
 match i,hi with
 | 0,_=>exact h0
 | 1,_=>exact h1
 | 2,_=>exact h2
theorem aci {a b c:Fl} (h0:ar a=true) (h1:ar b=true) (h2:ar c=true) (w0:FW a) (w1:FW b) (w2:FW c):FinL [a,b,c] 3:=ajj (kP h0 h1 h2) w0 w1 w2
theorem F7 {t:Fl} {w x y z p q r M:Rat} (h:Ap t (T0 w x y z p q r) (75*uu*M)) (hn:Bd (Nq w x y z - 1) (1 / 1000)) (hp:Bd p M) (hq:Bd q M) (hr:Bd r M):Bd (rv t) (304 / 100*M):=by have m0:=hp.nonneg;exact(h.bd (Kp hn hp hq hr)).mono (by grind)
theorem q1 {a b c d p q r s:Fl} {jw jx jy jz u v t M:Rat} {cc hw hx hy hz:Rat} (ha:Un (rv a) (rv b) (rv c) (rv d)) (hb:Un (rv p) (rv q) (rv r) (rv s))
    (gw:Bd (hw - (rv a*rv p - rv b*rv q - rv c*rv r - rv d*rv s)) (147 / 10*uu)) (gx:Bd (hx - (rv a*rv q+rv b*rv p+rv c*rv s - rv d*rv r)) (147 / 10*uu)) (gy:Bd (hy - (rv a*rv r - rv b*rv s+rv c*rv p+rv d*rv q)) (147 / 10*uu)) (gz:Bd (hz - (rv a*rv s+rv b*rv r - rv c*rv q+rv d*rv p)) (147 / 10*uu))
    (hY:Bd (cc*cc*Nq hw hx hy hz - 1) (81 / 10*uu)) (cw:Bd (cc*hw) kap) (cx:Bd (cc*hx) kap) (cy:Bd (cc*hy) kap) (cz:Bd (cc*hz) kap)
    (dw:Bd (jw - cc*hw) (205 / 100*uu)) (dx:Bd (jx - cc*hx) (205 / 100*uu)) (dy:Bd (jy - cc*hy) (205 / 100*uu)) (dz:Bd (jz - cc*hz) (205 / 100*uu))
    (hj:Bd (Nq jw jx jy jz - 1) (1 / 562949953421312)) (hu:Bd u M) (hv:Bd v M) (ht:Bd t M)
    {o0 o1 o2 m0 m1 m2 w0 w1 w2:Fl} (O0:Ap o0 (T0 jw jx jy jz u v t) (75*uu*M)) (O1:Ap o1 (T0 jw jy jz jx v t u) (75*uu*M)) (O2:Ap o2 (T0 jw jz jx jy t u v) (75*uu*M))
    (M0:Ap m0 (T0 (rv p) (rv q) (rv r) (rv s) u v t) (75*uu*M)) (M1:Ap m1 (T0 (rv p) (rv r) (rv s) (rv q) v t u) (75*uu*M)) (M2:Ap m2 (T0 (rv p) (rv s) (rv q) (rv r) t u v) (75*uu*M))
    (W0:Ap w0 (T0 (rv a) (rv b) (rv c) (rv d) (rv m0) (rv m1) (rv m2)) (75*uu*(304 / 100*M))) (W1:Ap w1 (T0 (rv a) (rv c) (rv d) (rv b) (rv m1) (rv m2) (rv m0)) (75*uu*(304 / 100*M))) (W2:Ap w2 (T0 (rv a) (rv d) (rv b) (rv c) (rv m2) (rv m0) (rv m1)) (75*uu*(304 / 100*M))) :
    Bd (rv o0 - rv w0) (2040*uu*M)/\Bd (rv o1 - rv w1) (2040*uu*M)/\Bd (rv o2 - rv w2) (2040*uu*M):=by
  have hM:=hu.nonneg;have k0:=E4 ha hb gw gx gy gz hY cw cx cy cz dw dx dy dz hj hu hv ht;have n1:Nq hw hy hz hx=Nq hw hx hy hz:=by unfold Nq; grind
  have n2:Nq hw hz hx hy=Nq hw hx hy hz:=by unfold Nq; grind
  have l1:Nq jw jy jz jx=Nq jw jx jy jz:=by unfold Nq; grind
  have l2:Nq jw jz jx jy=Nq jw jx jy jz:=by unfold Nq; grind
  have k1:=E4 (a:=rv a) (b:=rv c) (c:=rv d) (d:=rv b) (p:=rv p) (q:=rv r) (r:=rv s) (s:=rv q) ha.cyc hb.cyc (hw:=hw) (hx:=hy) (hy:=hz) (hz:=hx) (jw:=jw) (jx:=jy) (jy:=jz) (jz:=jx) (cc:=cc)
    (by have e:rv a*rv p - rv c*rv r - rv d*rv s - rv b*rv q=rv a*rv p - rv b*rv q - rv c*rv r - rv d*rv s:=(by grind); rw[e]; exact gw)
    (by have e:rv a*rv r+rv c*rv p+rv d*rv q - rv b*rv s=rv a*rv r - rv b*rv s+rv c*rv p+rv d*rv q:=(by grind); rw[e]; exact gy)
    (by have e:rv a*rv s - rv c*rv q+rv d*rv p+rv b*rv r=rv a*rv s+rv b*rv r - rv c*rv q+rv d*rv p:=(by grind); rw[e]; exact gz)
    (by have e:rv a*rv q+rv c*rv s - rv d*rv r+rv b*rv p=rv a*rv q+rv b*rv p+rv c*rv s - rv d*rv r:=(by grind); rw[e]; exact gx)
    (by rw[n1]; exact hY) cw cy cz cx dw dy dz dx (by rw[l1]; exact hj) hv ht hu
  have k2:=E4 (a:=rv a) (b:=rv d) (c:=rv b) (d:=rv c) (p:=rv p) (q:=rv s) (r:=rv q) (s:=rv r) ha.cyc.cyc hb.cyc.cyc (hw:=hw) (hx:=hz) (hy:=hx) (hz:=hy) (jw:=jw) (jx:=jz) (jy:=jx) (jz:=jy) (cc:=cc)
    (by have e:rv a*rv p - rv d*rv s - rv b*rv q - rv c*rv r=rv a*rv p - rv b*rv q - rv c*rv r - rv d*rv s:=(by grind); rw[e]; exact gw)
    (by have e:rv a*rv s+rv d*rv p+rv b*rv r - rv c*rv q=rv a*rv s+rv b*rv r - rv c*rv q+rv d*rv p:=(by grind); rw[e]; exact gz)
    (by have e:rv a*rv q - rv d*rv r+rv b*rv p+rv c*rv s=rv a*rv q+rv b*rv p+rv c*rv s - rv d*rv r:=(by grind); rw[e]; exact gx)
    (by have e:rv a*rv r+rv d*rv q - rv b*rv s+rv c*rv p=rv a*rv r - rv b*rv s+rv c*rv p+rv d*rv q:=(by grind); rw[e]; exact gy)
    (by rw[n2]; exact hY) cw cz cx cy dw dz dx dy (by rw[l2]; exact hj) ht hu hv
  have t0:=oy ha M0.2 M1.2 M2.2;have t1:=oy ha.cyc M1.2 M2.2 M0.2;have t2:=oy ha.cyc.cyc M2.2 M0.2 M1.2;refine⟨Rc O0.2 k0 t0 W0.2 ?_,Rc O1.2 k1 t1 W1.2 ?_,Rc O2.2 k2 t2 W2.2 ?_⟩ <;> grind
theorem q2 {a b c d:Rat} {u v t M:Rat} (ha:Un a b c d) (hu:Bd u M) (hv:Bd v M) (ht:Bd t M) {o0 o1 o2 w0 w1 w2:Fl} (O0:Ap o0 (T0 a b c d u v t) (75*uu*M)) (O1:Ap o1 (T0 a c d b v t u) (75*uu*M)) (O2:Ap o2 (T0 a d b c t u v) (75*uu*M))
  (W0:Ap w0 (T0 a (-b) (-c) (-d) (rv o0) (rv o1) (rv o2)) (75*uu*(304 / 100*M))) (W1:Ap w1 (T0 a (-c) (-d) (-b) (rv o1) (rv o2) (rv o0)) (75*uu*(304 / 100*M))) (W2:Ap w2 (T0 a (-d) (-b) (-c) (rv o2) (rv o0) (rv o1)) (75*uu*(304 / 100*M))) :
  Bd (rv w0 - u) (2040*uu*M)/\Bd (rv w1 - v) (2040*uu*M)/\Bd (rv w2 - t) (2040*uu*M):=by
 have hM:=hu.nonneg;have k0:=Q2 ha hu hv ht;have k1:=Q2 ha.cyc hv ht hu;have k2:=Q2 ha.cyc.cyc ht hu hv;have t0:=oy ha.neg O0.2 O1.2 O2.2;have t1:=oy ha.cyc.neg O1.2 O2.2 O0.2;have t2:=oy ha.cyc.cyc.neg O2.2 O0.2 O1.2;refine⟨Rb W0.2 t0 k0 ?_,Rb W1.2 t1 k1 ?_,Rb W2.2 t2 k2 ?_⟩ <;> grind
theorem q3 {w x y z u v t:Fl} {M:Rat} (hR:su M) (h:bA [w,x,y,z]=true) (hn:Bd (Nq (rv w) (rv x) (rv y) (rv z) - 1) (1 / 1000)) (fu:ar u=true) (fv:ar v=true) (ft:ar t=true) (hu:Bd (rv u) M) (hv:Bd (rv v) M) (ht:Bd (rv t) M)
  {o0 o1 o2:Fl} (O0:Ap o0 (T0 (rv w) (rv x) (rv y) (rv z) (rv u) (rv v) (rv t)) (75*uu*M)) (O1:Ap o1 (T0 (rv w) (rv y) (rv z) (rv x) (rv v) (rv t) (rv u)) (75*uu*M)) (O2:Ap o2 (T0 (rv w) (rv z) (rv x) (rv y) (rv t) (rv u) (rv v)) (75*uu*M)) :
  bA (md w x y z)=true /\
  (ar (ai (ai (af (List.getD (md w x y z) 0 none) u) (af (List.getD (md w x y z) 1 none) v)) (af (List.getD (md w x y z) 2 none) t))=true/\Bd (rv o0 - rv (ai (ai (af (List.getD (md w x y z) 0 none) u) (af (List.getD (md w x y z) 1 none) v)) (af (List.getD (md w x y z) 2 none) t))) (2040*uu*M)) /\
  (ar (ai (ai (af (List.getD (md w x y z) 3 none) u) (af (List.getD (md w x y z) 4 none) v)) (af (List.getD (md w x y z) 5 none) t))=true/\Bd (rv o1 - rv (ai (ai (af (List.getD (md w x y z) 3 none) u) (af (List.getD (md w x y z) 4 none) v)) (af (List.getD (md w x y z) 5 none) t))) (2040*uu*M)) /\
  (ar (ai (ai (af (List.getD (md w x y z) 6 none) u) (af (List.getD (md w x y z) 7 none) v)) (af (List.getD (md w x y z) 8 none) t))=true/\Bd (rv o2 - rv (ai (ai (af (List.getD (md w x y z) 6 none) u) (af (List.getD (md w x y z) 7 none) v)) (af (List.getD (md w x y z) 8 none) t))) (2040*uu*M)):=by
 obtain⟨fw,fx,fy,fz⟩:=aji h;obtain⟨bw,bx,bY,bz⟩:=Kq hn;have hM:=hu.nonneg;have d0:=ue fy fz bY bz;have d4:=ue fx fz bx bz;have d8:=ue fx fy bx bY;obtain⟨d1,d3⟩:=uE fx fy fw fz bx bY bw bz;obtain⟨d6,d2⟩:=uE fx fz fw fy bx bz bw bY;obtain⟨d5,d7⟩:=uE fy fz fw fx bY bz bw bx;have r0:=xT hR d0 d1 d2 fu fv ft hu hv ht;have r1:=xT hR d3 d4 d5 fu fv ft hu hv ht;have r2:=xT hR d6 d7 d8 fu fv ft hu hv ht;have e0:=Es (rv w) (rv x) (rv y) (rv z) (rv u) (rv v) (rv t);have e1:T0 (rv w) (rv y) (rv z) (rv x) (rv v) (rv t) (rv u)=2*(rv x*rv y+rv w*rv z)*rv u+(1 - 2*(rv x*rv x+rv z*rv z))*rv v+2*(rv y*rv z - rv w*rv x)*rv t:=by rw[Es]; grind
 have e2:T0 (rv w) (rv z) (rv x) (rv y) (rv t) (rv u) (rv v)=2*(rv x*rv z - rv w*rv y)*rv u+2*(rv y*rv z+rv w*rv x)*rv v+(1 - 2*(rv x*rv x+rv y*rv y))*rv t:=by rw[Es]; grind
 rw[e0]at O0;rw[e1]at O1;rw[e2]at O2;refine⟨?_,⟨r0.1,Q_ O0.2 r0.2 (by grind)⟩,⟨r1.1,Q_ O1.2 r1.2 (by grind)⟩,⟨r2.1,Q_ O2.2 r2.2 (by grind)⟩⟩;refine iE.2 λi hi=>?_
 have hi:i<9:=hi
 match i,hi with
 | 0,_=>exact d0.1.1
 | 1,_=>exact d1.1.1
 | 2,_=>exact d2.1.1
 | 3,_=>exact d3.1.1
 | 4,_=>exact d4.1.1
 | 5,_=>exact d5.1.1
 | 6,_=>exact d6.1.1
 | 7,_=>exact d7.1.1
 | 8,_=>exact d8.1.1
theorem Tm.amt {a:Rat} (h:Tm a):∃ α,0<=α/\(a=α\/a = -α)/\(α=0\/(tS<=α/\α<=tG)):=by
 have hs:=mu;rcases h with h | h | h
 ·exact⟨0,Rat.le_refl,.inl h,.inl rfl⟩
 ·exact⟨a,by grind,.inl rfl,.inr h⟩
 ·exact⟨-a,by grind,.inr (by grind),.inr h⟩
theorem Ap.to {x:Fl} {a b e d E:Rat} (h:Ap x a e) (g:Bd (a - b) d) (hE:e+d<=E):Ap x b E:=by obtain⟨f,h1,h2⟩:=h;obtain⟨g1,g2⟩:=g;exact⟨f,by grind,by grind⟩
end Go.Proofs.YtadejnnigmcpdaaGreatDoor
