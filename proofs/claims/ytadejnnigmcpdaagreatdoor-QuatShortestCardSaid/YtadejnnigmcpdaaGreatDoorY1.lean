/-
  THE SHORTEST TURN: how near its image lies to the other direction; all over the rationals.
  Conditions: none.
-/
import Derived.Test.YtadejnnigmcpdaaGreatDoorN18
import Derived.Test.YtadejnnigmcpdaaGreatDoorFlG
import Derived.Test.YtadejnnigmcpdaaGreatDoorL3
import Derived.Test.YtadejnnigmcpdaaGreatDoorS0
set_option linter.unusedVariables false
section
namespace Go.Proofs.YtadejnnigmcpdaaGreatDoor
open Go Go.Mach Ieee P3
theorem Ko (w:Rat) (v c:P3):Rot w v.x v.y v.z c=P3.add (P3.add (P3.scl (w*w - v.dot v) c) (P3.scl (2*v.dot c) v)) (P3.scl (2*w) (v.crs c)):=by apply P3.ext' <;> (unfold Rot R0 ra rb rc P3.add P3.scl P3.dot P3.crs; grind)
theorem ahD (v c d:P3):(v.crs c).crs d=(P3.scl (v.dot d) c).sub (P3.scl (c.dot d) v):=by apply P3.ext' <;> (unfold P3.crs P3.scl P3.sub P3.dot; grind)
theorem Io (v c d:P3):(v.crs c).dot d=v.dot (c.crs d):=by unfold P3.crs P3.dot; grind
theorem Rh (p q r d:P3) (a b c:Rat):(P3.add (P3.add (P3.scl a p) (P3.scl b q)) (P3.scl c r)).crs d=P3.add (P3.add (P3.scl a (p.crs d)) (P3.scl b (q.crs d))) (P3.scl c (r.crs d)):=by apply P3.ext' <;> (unfold P3.crs P3.add P3.scl; grind)
theorem RJ (p q r d:P3) (a b c:Rat):(P3.add (P3.add (P3.scl a p) (P3.scl b q)) (P3.scl c r)).dot d=a*p.dot d+b*q.dot d+c*r.dot d:=by unfold P3.dot P3.add P3.scl; grind
theorem Oa (p q r:P3):(p.add q).dot r=p.dot r+q.dot r:=by unfold P3.dot P3.add; grind
theorem RI (p q:P3):p.dot q=q.dot p:=by unfold P3.dot; grind
theorem N0 (c d:P3):(c.crs d).dot c=0:=by unfold P3.dot P3.crs; grind
theorem N1 (c d:P3):(c.crs d).dot d=0:=by unfold P3.dot P3.crs; grind
theorem jm (v x:P3):x.add (v.sub x)=v:=by apply P3.ext' <;> (unfold P3.add P3.sub; grind)
theorem lM (x t:P3):(x.add t).dot (x.add t)=x.dot x+2*x.dot t+t.dot t:=by unfold P3.dot P3.add; grind
theorem abu {X t:P3} {e:Rat} (h:NB t e):NB (P3.scl (X.dot t) X) (X.dot X*e):=by
 have h1:=FB X t;have h2:=bu (X.crs t);have x0:=bu X;refine⟨Rat.mul_nonneg x0 h.1,?_⟩;have i:(P3.scl (X.dot t) X).dot (P3.scl (X.dot t) X)=X.dot t*X.dot t*X.dot X:=by unfold P3.scl P3.dot; grind
 rw[i];have h3:=h.2;generalize X.dot X=a at *;generalize t.dot t=b at *;generalize X.dot t=c at *;generalize (X.crs t).dot (X.crs t)=s at *;have a1:=Rat.mul_nonneg h2 x0;have a2:=Rat.mul_nonneg (Rat.mul_nonneg x0 x0) (by grind:0<=e*e - b);clear i;have e1:c*c=a*b - s:=by grind
 have e2:a*e*(a*e)=a*a*(e*e):=by grind
 have e3:(a*b - s)*a=a*a*b - s*a:=by grind
 have e4:a*a*(e*e - b)=a*a*(e*e) - a*a*b:=by grind
 rw[e1,e2,e3];rw[e4]at a2;generalize a*a*(e*e)=p at *;generalize a*a*b=q at *;generalize s*a=r at *;clear e1 e2 e3 e4 h1;grind
structure Pr (c d V:P3) (W:Rat):Prop where
 A:Bd (c.dot c - 1) (132 / 10*uu)
 B:Bd (d.dot d - 1) (132 / 10*uu)
 D:Bd (W - (1+c.dot d)) (51 / 10*uu)
 T:NB (V.sub (c.crs d)) (284 / 100*uu)
 W0:1 / 1048576<=W
section
variable {c d V:P3} {W:Rat}
theorem rH {p:P3} (h:Bd (p.dot p - 1) (132 / 10*uu)):NB p (10001 / 10000):=⟨by grind,by have:=h.2; grind⟩
theorem Ew {A B:Rat} (hA:Bd (A - 1) (132 / 10*uu)) (hB:Bd (B - 1) (132 / 10*uu)):Bd (A*B - 1) (2641 / 100*uu):=by have a:=hA.mul hB;obtain⟨a1,a2⟩:=a;obtain⟨b1,b2⟩:=hA;obtain⟨c1,c2⟩:=hB;exact⟨by grind,by grind⟩
theorem ak0 {P W:Rat} (h:Bd P (10003 / 10000)) (hD:Bd (W - (1+P)) (51 / 10*uu)):W<=2001 / 1000/\Bd (W - 1) (1001 / 1000):=by obtain⟨a,b⟩:=h;obtain⟨c,d⟩:=hD;exact⟨by grind,by grind,by grind⟩
theorem Pr.P (H:Pr c d V W):Bd (c.dot d) (10003 / 10000):=((rH H.A).dot (rH H.B)).mono (by grind)
theorem alD {A B P W X:Rat} (hX:X=A*B - P*P) (hAB:Bd (A*B - 1) (2641 / 100*uu)) (hD:Bd (W - (1+P)) (51 / 10*uu)) (hW:Bd (W - 1) (1001 / 1000)) (hW0:1 / 1048576<=W):X<=100000001 / 100000000*(2*W)/\X<=1001 / 1000/\Bd (X - (2*W - W*W)) (37*uu):=by
 have e:P=W - 1 - (W - (1+P)):=by grind
 generalize W - (1+P)=δ at *;subst e;have a:=hW.mul hD;have b:=hD.sq;have c:=ak (W - 1 - δ);have d:=ak δ;generalize A*B=q at *;have f:(W - 1 - δ)*(W - 1 - δ)=W*W - 2*W+1 - 2*((W - 1)*δ)+δ*δ:=by grind
 rw[f]at hX c;generalize (W - 1)*δ=r at *;generalize δ*δ=s at *;obtain⟨a1,a2⟩:=a;obtain⟨h1,h2⟩:=hAB;have w2:=ak W;generalize W*W=ww at *;exact⟨by grind,by grind,by grind,by grind⟩
theorem Pr.W2 (H:Pr c d V W):W<=2001 / 1000/\Bd (W - 1) (1001 / 1000):=ak0 H.P H.D
theorem Pr.X (H:Pr c d V W):(c.crs d).dot (c.crs d)<=100000001 / 100000000*(2*W)/\(c.crs d).dot (c.crs d)<=1001 / 1000/\Bd ((c.crs d).dot (c.crs d) - (2*W - W*W)) (37*uu):=
 alD (FB c d) (Ew H.A H.B) H.D H.W2.2 H.W0
theorem Pr.nX (H:Pr c d V W):NB (c.crs d) (7241 / 10*(2*W))/\NB (c.crs d) (1001 / 1000):=by
 have h:=H.X;have w:=H.W0;have w2:=Rat.mul_nonneg (by grind:0<=W - 1 / 1048576) (by grind:0<=W);refine⟨⟨by grind,?_⟩,⟨by grind,?_⟩⟩
 ·have:=h.1;grind
 ·have:=h.2.1;grind
theorem Pr.nV (H:Pr c d V W):NB V (7242 / 10*(2*W))/\NB V (1002 / 1000):=by have h:=H.nX;have w:=H.W0;exact⟨(h.1.le H.T).mono (by grind),(h.2.le H.T).mono (by grind)⟩
theorem Pr.s (H:Pr c d V W):Bd ((c.crs d).dot (V.sub (c.crs d))) (285 / 100*uu):=(H.nX.2.dot H.T).mono (by grind)
theorem Pr.t (H:Pr c d V W):Bd ((V.sub (c.crs d)).dot (V.sub (c.crs d))) (uu / 1000000):=(H.T.dot H.T).mono (by grind)
theorem Pr.f (H:Pr c d V W):Bd ((V.sub (c.crs d)).dot c) (285 / 100*uu):=(H.T.dot (rH H.A)).mono (by grind)
theorem Pr.g (H:Pr c d V W):Bd ((V.sub (c.crs d)).dot d) (285 / 100*uu):=(H.T.dot (rH H.B)).mono (by grind)
theorem akV {X s t W V:Rat} (hV:V=X+2*s+t) (hX:Bd (X - (2*W - W*W)) (37*uu)) (hs:Bd s (285 / 100*uu)) (ht:Bd t (uu / 1000000)):Bd (W*W+V - 2*W) (43*uu):=by obtain⟨a,b⟩:=hX;obtain⟨c,d⟩:=hs;obtain⟨e,f⟩:=ht;exact⟨by grind,by grind⟩
theorem Pr.N (H:Pr c d V W):Bd (W*W+V.dot V - 2*W) (43*uu):=by have h:=lM (c.crs d) (V.sub (c.crs d));rw[jm]at h;exact akV h H.X.2.2 H.s H.t
theorem akT {W P A B X s t k:Rat} (hk:k=W*W - (X+2*s+t) - 2*W*P) (hX:X=A*B - P*P) (hAB:Bd (A*B - 1) (2641 / 100*uu)) (hD:Bd (W - (1+P)) (51 / 10*uu)) (ht:Bd t (uu / 1000000)):Bd (k+2*s) (367 / 10*uu):=by
 have e:W=1+P+(W - (1+P)):=by grind
 generalize W - (1+P)=δ at *;subst e;have b:=hD.sq;have d:=ak δ;have f:k+2*s=1 - A*B+2*δ+δ*δ - t:=by rw[hk,hX]; grind
 rw[f];generalize A*B=q at *;generalize δ*δ=z at *;obtain⟨a1,a2⟩:=hAB;obtain⟨b1,b2⟩:=hD;obtain⟨c1,c2⟩:=ht;exact⟨by grind,by grind⟩
theorem Rg (W:Rat) (V c d:P3):(Rot W V.x V.y V.z c).crs d=P3.add (P3.add (P3.scl (W*W - V.dot V - 2*W*c.dot d) (c.crs d)) (P3.scl (2*V.dot c) (V.crs d))) (P3.scl (2*W) ((P3.scl (V.dot d) c).sub (P3.scl (c.dot d) (V.sub (c.crs d))))):=by rw[Ko,Rh,ahD];generalize V.dot c=a;generalize V.dot d=b;generalize c.dot d=p;generalize V.dot V=q;generalize V.crs d=r;generalize c.crs d=s;apply P3.ext' <;> (unfold P3.add P3.scl P3.sub; grind)
theorem Kr (V c d:P3):V.dot c=(V.sub (c.crs d)).dot c:=by
 have:=N0 c d;have e:(V.sub (c.crs d)).dot c=V.dot c - (c.crs d).dot c:=by unfold P3.dot P3.sub; grind
 rw[e,this]; grind
theorem Ks (V c d:P3):V.dot d=(V.sub (c.crs d)).dot d:=by
 have:=N1 c d;have e:(V.sub (c.crs d)).dot d=V.dot d - (c.crs d).dot d:=by unfold P3.dot P3.sub; grind
 rw[e,this]; grind
theorem Pd (k s:Rat) (p:P3):P3.scl k p=(P3.scl (k+2*s) p).sub (P3.scl 2 (P3.scl s p)):=by apply P3.ext' <;> (unfold P3.scl P3.sub; grind)
theorem Pr.across (H:Pr c d V W):NB ((Rot W V.x V.y V.z c).crs d) (30930*uu*(2*W)):=by
 have w:=H.W0;have hx:=FB c d;have hv:=lM (c.crs d) (V.sub (c.crs d));rw[jm]at hv;rw[Rg];have hk:=akT (k:=W*W - V.dot V - 2*W*c.dot d) (by rw[hv]) hx (Ew H.A H.B) H.D H.t;rw[Pd (W*W - V.dot V - 2*W*c.dot d) ((c.crs d).dot (V.sub (c.crs d)))];have t1:=H.nX.1.scl hk;have t2:=(abu (X:=c.crs d) H.T).scl (c:=2) (k:=2) (by unfold Bd; grind);have t12:=(t1.sub t2).mono (f:=26581*uu*(2*W)) (by have:=H.X.1; grind);have hf:Bd (2*V.dot c) (57 / 10*uu):=by rw[Kr V c d];have:=H.f;obtain⟨a,b⟩:=this;exact⟨by grind,by grind⟩
 have t5:=((H.nV.1.crs (rH H.B)).scl hf).mono (f:=4129*uu*(2*W)) (by grind);have hg:Bd (V.dot d) (285 / 100*uu):=by rw[Ks V c d]; exact H.g
 have t4:=(rH H.A).scl hg;have t3:=H.T.scl H.P;have t34:=((t4.sub t3).scl (c:=2*W) (k:=2*W) ⟨by grind,Rat.le_refl⟩).mono (f:=10*uu*(2*W)) (by grind);exact((t12.add t5).add t34).mono (by grind)
theorem QL (P δ a s t f g:Rat):((1+P+δ)*(1+P+δ) - (a+1 - P*P+2*s+t))*P+2*f*g+2*(1+P+δ)*(a+1 - P*P+s) - 2*(1+P+δ)=P*(2*δ*(1+P)+δ*δ - a - 2*s - t)+2*((1+P+δ)*(a+s)) - 2*(δ*(P*P))+2*(f*g):=by grind
theorem NT {W P A B X s t f g r:Rat} (hr:r=(W*W - (X+2*s+t))*P+2*f*g+2*W*(X+s)) (hX:X=A*B - P*P) (hAB:Bd (A*B - 1) (2641 / 100*uu)) (hD:Bd (W - (1+P)) (51 / 10*uu)) (hP:Bd P (10003 / 10000)) (hW:Bd W (2001 / 1000)) (hs:Bd s (285 / 100*uu)) (ht:Bd t (uu / 1000000)) (hf:Bd f (285 / 100*uu)) (hg:Bd g (285 / 100*uu)):Bd (r - 2*W) (200*uu):=by
 have hw:W=1+P+(W - (1+P)):=by grind
 have ha:A*B=A*B - 1+1:=by grind
 rw[ha]at hX;generalize A*B - 1=a at *;clear ha;have hi:=QL P (W - (1+P)) a s t f g;rw[<- hw]at hi;rw[hr,hX,hi];clear hi hr hX hw r X;generalize W - (1+P)=δ at *;have p1:Bd (1+P) (20003 / 10000):=by obtain⟨x,y⟩:=hP; exact⟨by grind,by grind⟩
 have d1:=(hD.mul p1)
 have d2:=hD.mul hD;have q1:Bd (2*δ*(1+P)+δ*δ - a - 2*s - t) (60*uu):=by
  have i:2*δ*(1+P)=2*(δ*(1+P)):=by grind
  rw[i];generalize δ*(1+P)=x at *;generalize δ*δ=y at *;obtain⟨a1,a2⟩:=d1;obtain⟨b1,b2⟩:=d2;obtain⟨c1,c2⟩:=hAB;obtain⟨e1,e2⟩:=hs;obtain⟨f1,f2⟩:=ht;clear hf hg hW p1 hD hP;exact⟨by grind,by grind⟩
 have q2:Bd (a+s) (30*uu):=(hAB.add hs).mono (by grind);have q3:=hP.mul q1;have q4:=hW.mul q2;have q5:=hD.mul (hP.mul hP);have q6:=hf.mul hg;generalize P*(2*δ*(1+P)+δ*δ - a - 2*s - t)=x1 at *;generalize W*(a+s)=x2 at *;generalize δ*(P*P)=x3 at *;generalize f*g=x4 at *;obtain⟨a1,a2⟩:=q3;obtain⟨b1,b2⟩:=q4;obtain⟨c1,c2⟩:=q5;obtain⟨e1,e2⟩:=q6;clear d1 d2 q1 q2 p1 hf hg hs ht hAB hP hW hD;exact⟨by grind,by grind⟩
theorem Pr.along (H:Pr c d V W):Bd ((Rot W V.x V.y V.z c).dot d - 2*W) (200*uu):=by
 have hx:=FB c d;have hv:=lM (c.crs d) (V.sub (c.crs d));rw[jm]at hv;have hW:Bd W (2001 / 1000):=by have:=H.W0;have:=H.W2.1;exact⟨by grind,by grind⟩
 refine NT (f:=(V.sub (c.crs d)).dot c) (g:=(V.sub (c.crs d)).dot d) ?_ hx (Ew H.A H.B) H.D H.P hW H.s H.t H.f H.g;rw[Ko,RJ,Io,Kr V c d,Ks V c d,hv];have e:V.dot (c.crs d)=(c.crs d).dot (c.crs d)+(c.crs d).dot (V.sub (c.crs d)):=by have:=Oa (c.crs d) (V.sub (c.crs d)) (c.crs d);rw[jm,RI (V.sub (c.crs d)) (c.crs d)]at this;exact this
 rw[e]
end
theorem N3 (k:Rat) (p q:P3):(P3.scl k p).crs q=P3.scl k (p.crs q):=by apply P3.ext' <;> (unfold P3.crs P3.scl; grind)
theorem Ob (k:Rat) (p q:P3):(P3.scl k p).dot q=k*p.dot q:=by unfold P3.dot P3.scl; grind
theorem Bp (W:Rat) (V:P3):Nq W V.x V.y V.z=W*W+V.dot V:=by unfold Nq P3.dot; grind
theorem T7 {ν n r e:Rat} (h:Bd (ν*n - 1) (1 / 1000000)) (hn:1 / 524288<=n) (hν:0<=ν) (hr:Bd (r - n) (e*uu)) (he:0<=e) (he2:e<=200):Bd (ν*r - 1) (11 / 10000000):=by
 have a:=Rat.mul_nonneg hν (by grind:0<=n - 1 / 524288);have b:ν<=524289:=by obtain⟨h1,h2⟩:=h;grind
 have c:=Bd.mul (⟨by grind,b⟩:Bd ν 524289) hr;have d:ν*(r - n)=ν*r - ν*n:=by grind
 rw[d]at c;obtain⟨h1,h2⟩:=h;obtain⟨c1,c2⟩:=c;have f:524289*(e*uu)<=2 / 100000000:=by grind
 exact⟨by grind,by grind⟩
section
variable {c d V a b w:P3} {W ν G K:Rat}
theorem Pr.u (H:Pr c d V W) (hν:0<=ν) (hμ:Bd (ν*(2*W) - 1) (1 / 1000000)) :
  NB (P3.scl ν (Rot W V.x V.y V.z c)) (10002 / 10000)/\NB ((P3.scl ν (Rot W V.x V.y V.z c)).crs d) (30931*uu)/\Bd ((P3.scl ν (Rot W V.x V.y V.z c)).dot d - 1) (2 / 1000000):=by
 have w:=H.W0;have h1:=T7 (e:=43) hμ (by grind) hν H.N (by grind) (by grind);have h2:=T7 (e:=200) hμ (by grind) hν H.along (by grind) (by grind);have hN0:0<=Nq W V.x V.y V.z:=by rw[Bp];have:=bu V;have:=ak W;grind
 refine⟨?_,?_,?_⟩
 ·have:=((rH H.A).rot (w:=W) (x:=V.x) (y:=V.y) (z:=V.z) hN0).scl (c:=ν) (k:=ν) ⟨by grind,Rat.le_refl⟩;refine this.mono ?_;rw[Bp];obtain⟨a,b⟩:=h1;have e:ν*((W*W+V.dot V)*(10001 / 10000))=ν*(W*W+V.dot V)*(10001 / 10000):=by grind
  rw[e];generalize ν*(W*W+V.dot V)=q at *;grind
 ·rw[N3];refine(H.across.scl (c:=ν) (k:=ν) ⟨by grind,Rat.le_refl⟩).mono ?_;obtain⟨a,b⟩:=hμ;have e:ν*(30930*uu*(2*W))=30930*uu*(ν*(2*W)):=by grind
  rw[e];generalize ν*(2*W)=q at *;grind
 ·rw[Ob];exact h2.mono (by grind)
theorem C3 (u d w b:P3) (G K:Rat):w.crs b=P3.add (P3.add (P3.scl (G*K) (u.crs d)) (P3.scl G (u.crs (b.sub (P3.scl K d))))) ((w.sub (P3.scl G u)).crs b):=by apply P3.ext' <;> (unfold P3.crs P3.add P3.scl P3.sub; grind)
theorem Oc (u d w b:P3) (G K:Rat):w.dot b=G*K*u.dot d+G*u.dot (b.sub (P3.scl K d))+(w.sub (P3.scl G u)).dot b:=by unfold P3.dot P3.scl P3.sub; grind
theorem Dy {p q:P3} {K e:Rat} (h:NB (p.sub (P3.scl K q)) e) (g:NB q (10001 / 10000)) (hK:0<=K):NB p (K*(10001 / 10000)+e):=(g.scl (c:=K) (k:=K) ⟨by grind,Rat.le_refl⟩).le h
theorem Pr.both (H:Pr c d V W) (hν:0<=ν) (hμ:Bd (ν*(2*W) - 1) (1 / 1000000)) (hG:0<G) (hK:0<K) (hw:NB (w.sub (P3.scl G (P3.scl ν (Rot W V.x V.y V.z c)))) (500*uu*G)) (hb:NB (b.sub (P3.scl K d)) (4*uu*K)) :
  NB (w.crs b) (31440*uu*(G*K))/\(1 - 3 / 1000000)*(G*K)<=w.dot b:=by
 obtain⟨u1,u2,u3⟩:=H.u hν hμ;generalize P3.scl ν (Rot W V.x V.y V.z c)=u at *;have hGK:=Rat.mul_pos hG hK;have hb2:=(Dy hb (rH H.B) (Rat.le_of_lt hK)).mono (f:=K*(10002 / 10000)) (by grind);have g1:Bd G G:=⟨by grind,Rat.le_refl⟩
 have gk:Bd (G*K) (G*K):=⟨by grind,Rat.le_refl⟩
 constructor
 ·rw[C3 u d w b G K];have t1:=u2.scl gk;have t2:=(u1.crs hb).scl g1;have t3:=hw.crs hb2;refine((t1.add t2).add t3).mono ?_;have e1:G*(10002 / 10000*(4*uu*K))=10002 / 10000*(4*uu)*(G*K):=by grind
  have e2:500*uu*G*(K*(10002 / 10000))=500*uu*(10002 / 10000)*(G*K):=by grind
  rw[e1,e2];generalize G*K=q at *;grind
 ·rw[Oc u d w b G K];have t1:=gk.mul u3;have t2:=g1.mul (u1.dot hb);have t3:=hw.dot hb2;have e1:G*(10002 / 10000*(4*uu*K))=10002 / 10000*(4*uu)*(G*K):=by grind
  have e2:500*uu*G*(K*(10002 / 10000))=500*uu*(10002 / 10000)*(G*K):=by grind
  have e3:G*K*(u.dot d - 1)=G*K*u.dot d - G*K:=by grind
  rw[e1]at t2;rw[e2]at t3;rw[e3]at t1;generalize G*K*u.dot d=x1 at *;generalize G*u.dot (b.sub (P3.scl K d))=x2 at *;generalize (w.sub (P3.scl G u)).dot b=x3 at *;generalize G*K=q at *;obtain⟨a1,a2⟩:=t1;obtain⟨b1,b2⟩:=t2;obtain⟨c1,c2⟩:=t3;grind
end
abbrev rm:Rat:=1 / 75557863725914323419136
theorem OU {X D q:Rat} (hq:0<q) (hX:X<=31440*uu*q*(31440*uu*q)) (hD:(1 - 3 / 1000000)*q<=D):0<D/\107 / 100*X<=rm*(D*D):=by
 have hq2:=Rat.mul_pos hq hq;have e:31440*uu*q*(31440*uu*q)=31440*uu*(31440*uu)*(q*q):=by grind
 rw[e]at hX;have h1:=Rat.mul_nonneg (by grind:0<=D - (1 - 3 / 1000000)*q) (by grind:0<=D+(1 - 3 / 1000000)*q);have e2:(D - (1 - 3 / 1000000)*q)*(D+(1 - 3 / 1000000)*q)=D*D - (1 - 3 / 1000000)*(1 - 3 / 1000000)*(q*q):=by grind
 rw[e2]at h1;generalize q*q=p at *;generalize D*D=s at *;exact⟨by grind,by grind⟩
theorem KC {a b:Rat} (ha:0<=a) (h:a<=b):a*a<=b*b:=by have:=Rat.mul_nonneg (by grind:0<=b - a) (by grind:0<=b+a);grind
theorem NV {x y p D X R:Rat} (hx:0<=x) (hy:0<=y) (hp:p<=0) (hD:0<D) (hX:0<=X) (hR:107 / 100*X<=R) (hRD:R<=1 / 1000*(D*D+X)) (h:x+y - 2*p*D<=X):0<=R - x - y/\4*(p*p*(D*D+X))<=(R - x - y)*(R - x - y):=by
 have hm:0 <= -p*D:=Rat.mul_nonneg (by grind) (Rat.le_of_lt hD);have e:2*(-p*D)<=X:=by grind
 have h1:2*(-p*D)+(R - X)<=R - x - y:=by grind
 refine⟨by grind,Rat.le_trans ?_ (KC (by grind) h1)⟩;have hDD:=Rat.mul_pos hD hD;have k1:X*X<=2*(D*D)*(R - X):=by
  have a:=Rat.mul_nonneg hX (by grind:0<=D*D / 100 - X);have b:=Rat.mul_nonneg (Rat.le_of_lt hDD) (by grind:0<=R - X - 7 / 100*X);clear h h1 e hm hx hy hp;generalize D*D=s at *;have e1:X*(s / 100 - X)=s*X / 100 - X*X:=by grind
  have e2:s*(R - X - 7 / 100*X)=s*(R - X) - 7 / 100*(s*X):=by grind
  have e3:2*s*(R - X)=2*(s*(R - X)):=by grind
  have e4:=Rat.mul_nonneg (Rat.le_of_lt hDD) hX;rw[e1]at a;rw[e2]at b;rw[e3];generalize s*(R - X)=p at *;generalize s*X=q at *;generalize X*X=r at *;clear e1 e2 e3 hR hRD hX hDD;grind
 have k2:0<=D*(R - X) - -p*X:=by
  have a:=Rat.mul_nonneg hX (by grind:0<=X - 2*(-p*D));rcases (Rat.le_total:0<=D*(R - X) - -p*X\/D*(R - X) - -p*X<=0)with k | k
  ·exact k
  ·by_cases h0:D*(R - X) - -p*X=0
   ·rw[h0]; exact Rat.le_refl
   ·have:=Rat.mul_pos hD (by refine Rat.lt_of_le_of_ne (by grind:0 <= -(D*(R - X) - -p*X)) (λh=>h0 (by grind)))
    grind
 have k3:=Rat.mul_nonneg (by grind:0 <= -p) k2;have k4:=ak (R - X);grind
theorem NU {x y p D X R:Rat} (hp:0<=p) (hD:0<D) (hX:0<=X) (hR:X<=R) (h:x+y - 2*p*D<=X):x+y - R<=0\/(x+y - R)*(x+y - R)<=4*(p*p*(D*D+X)):=by
 rcases (Rat.le_total:x+y - R<=0\/0<=x+y - R)with k | k
 ·exact .inl k
 ·right;refine Rat.le_trans (KC k (by grind:x+y - R<=2*p*D)) ?_;have:=Rat.mul_nonneg (ak p) hX;grind
theorem afj (w b:P3):w.x*w.x*b.dot b+b.x*b.x*w.dot w - 2*(w.x*b.x)*w.dot b<=(w.crs b).dot (w.crs b):=by
 have h:w.x*w.x*b.dot b+b.x*b.x*w.dot w - 2*(w.x*b.x)*w.dot b=(w.crs b).dot (w.crs b) - (w.crs b).x*(w.crs b).x:=by unfold P3.dot P3.crs; grind
 rw[h];have:=ak (w.crs b).x;grind
theorem afk (w b:P3):w.y*w.y*b.dot b+b.y*b.y*w.dot w - 2*(w.y*b.y)*w.dot b<=(w.crs b).dot (w.crs b):=by
 have h:w.y*w.y*b.dot b+b.y*b.y*w.dot w - 2*(w.y*b.y)*w.dot b=(w.crs b).dot (w.crs b) - (w.crs b).y*(w.crs b).y:=by unfold P3.dot P3.crs; grind
 rw[h];have:=ak (w.crs b).y;grind
theorem afl (w b:P3):w.z*w.z*b.dot b+b.z*b.z*w.dot w - 2*(w.z*b.z)*w.dot b<=(w.crs b).dot (w.crs b):=by
 have h:w.z*w.z*b.dot b+b.z*b.z*w.dot w - 2*(w.z*b.z)*w.dot b=(w.crs b).dot (w.crs b) - (w.crs b).z*(w.crs b).z:=by unfold P3.dot P3.crs; grind
 rw[h];have:=ak (w.crs b).z;grind
def oI (wi bi s t:Rat):Prop:=(wi*bi<=0->0<=rm*(s*t) - wi*wi*t - bi*bi*s/\4*(wi*wi*t*(bi*bi*s))<=(rm*(s*t) - wi*wi*t - bi*bi*s)*(rm*(s*t) - wi*wi*t - bi*bi*s)) /\
 (0<=wi*bi->wi*wi*t+bi*bi*s - rm*(s*t)<=0\/(wi*wi*t+bi*bi*s - rm*(s*t))*(wi*wi*t+bi*bi*s - rm*(s*t))<=4*(wi*wi*t*(bi*bi*s)))
theorem wK {wi bi s t D X:Rat} (hst:s*t=D*D+X) (hs:0<=s) (ht:0<=t) (hD:0<D) (hX:0<=X) (hR:107 / 100*X<=rm*(D*D)) (h:wi*wi*t+bi*bi*s - 2*(wi*bi)*D<=X):oI wi bi s t:=by
 have e:wi*wi*t*(bi*bi*s)=wi*bi*(wi*bi)*(D*D+X):=by
  have:wi*wi*t*(bi*bi*s)=wi*bi*(wi*bi)*(s*t):=by grind
  rw[this,hst]
 have hx:=Rat.mul_nonneg (ak wi) ht;have hy:=Rat.mul_nonneg (ak bi) hs;have hDD:=Rat.mul_pos hD hD;unfold oI;rw[e,hst];constructor
 ·intro hp;exact NV hx hy hp hD hX (by generalize D*D=q at *; grind) (by generalize D*D=q at *; grind) h
 ·intro hp;exact NU hp hD hX (by generalize D*D=q at *; grind) h
section
variable {c d V a b w:P3} {W ν G K:Rat}
theorem Pr.asked (H:Pr c d V W) (hν:0<=ν) (hμ:Bd (ν*(2*W) - 1) (1 / 1000000)) (hG:0<G) (hK:0<K) (hw:NB (w.sub (P3.scl G (P3.scl ν (Rot W V.x V.y V.z c)))) (500*uu*G)) (hb:NB (b.sub (P3.scl K d)) (4*uu*K)) :
  oI w.x b.x (w.dot w) (b.dot b)/\oI w.y b.y (w.dot w) (b.dot b)/\oI w.z b.z (w.dot w) (b.dot b):=by
 obtain⟨h1,h2⟩:=H.both hν hμ hG hK hw hb;obtain⟨hD,hR⟩:=OU (Rat.mul_pos hG hK) h1.2 h2;have hst:w.dot w*b.dot b=w.dot b*w.dot b+(w.crs b).dot (w.crs b):=by rw[FB]; grind
 have hX:=bu (w.crs b);exact⟨wK hst (bu w) (bu b) hD hX hR (afj w b),wK hst (bu w) (bu b) hD hX hR (afk w b),wK hst (bu w) (bu b) hD hX hR (afl w b)⟩
end
theorem yV (s:Bool) {m:Nat} (hm:m ≠ 0) (hb:m<9007199254740992) {i:Int} (h1 : -1022<=i) (h2:i<=971) :
  Ieee.double.read (Ieee.double.nearest s m i)=.number s (m <<< (52 - m.log2)) (i - ((52 - m.log2:Nat):Int)):=by
 have hM:=BP hm hb;have h:=dA s (m <<< (52 - m.log2)) (i - ((52 - m.log2:Nat):Int)) hM ⟨by omega,by omega⟩;have w:=ff (dY s (by omega)) h;rw[jt]at w;rw[w]; exact h
theorem AW {m n:Nat} {i:Int} (hm:m<9007199254740992) (hn:n<=1000) (h:Ue n<=((m*2 ^ (i+1074).toNat:Nat):Rat)*Ue Sp) : -((n+53:Nat):Int)<i:=by
 rcases Int.lt_or_le (-((n+53:Nat):Int)) i with k | k
 ·exact k
 ·exfalso;obtain⟨l,hl⟩:∃ l,Sp=n+l:=⟨1074 - n,by rw[gd]; omega⟩
  rw[hl,cq]at h;have h2:=bD l;have hu:=bH n;have hlp:=bH l;have hlt:m*2 ^ (i+1074).toNat<2 ^ l:=by
   have h3:2 ^ (i+1074).toNat<=2 ^ (l - 53):=Nat.pow_le_pow_right (by decide) (by have:=gd; omega);have h4:9007199254740992*2 ^ (l - 53)=2 ^ l:=by rw[show(9007199254740992:Nat)=2 ^ 53 by decide,<- Nat.pow_add]; congr 1; have:=gd; omega
   have h5:m*2 ^ (i+1074).toNat<=m*2 ^ (l - 53):=Nat.mul_le_mul_left _ h3;have h6:m*2 ^ (l - 53)<9007199254740992*2 ^ (l - 53):=Nat.mul_lt_mul_of_pos_right hm (Nat.two_pow_pos _);omega
  have h7:((m*2 ^ (i+1074).toNat:Nat):Rat)<((2 ^ l:Nat):Rat):=Rat.natCast_lt_natCast.2 hlt;have h8:((2 ^ l:Nat):Rat)=(2:Rat) ^ l:=by rw[Rat.natCast_pow]; rfl
  rw[h8]at h7;generalize ((m*2 ^ (i+1074).toNat:Nat):Rat)=x at *;generalize (2:Rat) ^ l=P at *;have h9:=Rat.mul_pos (Rat.mul_pos hu hlp) (by grind:0<P - x);have e:Ue n*Ue l*(P - x)=Ue n*(P*Ue l) - x*(Ue n*Ue l):=by grind
  rw[e,h2]at h9;grind
theorem Uo {k:Int} {n:Nat} (hn:n<=1500) (hk : -2000<=k) (h:Ue n<=pz k) : -(n:Int)<=k:=by
 rcases Int.lt_or_le k (-(n:Int))with c | c
 ·exfalso;unfold pz at h;obtain⟨m,hm⟩:∃ m,(k+(K2:Int)).toNat=m:=⟨_,rfl⟩
  obtain⟨j,hj⟩:∃ j,K2=n+(m+(j+1)):=⟨K2 - n - m - 1,by have:=zF; omega⟩
  rw[hm]at h;rw[hj,cq,cq]at h;have h2:=bD m;have h3:=CI j;have hu:=bH n;have hj0:=bH j;have hle:Ue j<=1:=by have a:=bD j;have b:=mg j;have:=Rat.mul_nonneg (by grind:0<=(2:Rat) ^ j - 1) (Rat.le_of_lt hj0);grind
  generalize (2:Rat) ^ m=P at *;have e:P*(Ue n*(Ue m*Ue (j+1)))=Ue n*Ue (j+1)*(P*Ue m):=by grind
  rw[e,h2]at h;have:=Rat.mul_nonneg (Rat.le_of_lt hu) (by grind:0<=1 / 2 - Ue (j+1));grind
 ·exact c
theorem Ba {x:Fl} (hx:ar x=true) {k:Int} (h1 : -2000<=k) (h0:rv x=0 \/ ∃ n:Nat,n<=1000/\(n:Int)+52 - k<=1022/\(Ue n<=rv x\/Ue n <= -rv x)) (hb:Bd (rv x*pz k) Bg):ar (aF x k)=true/\rv (aF x k)=rv x*pz k:=by
 refine⟨LA hx h1 hb,?_⟩;obtain⟨b,s,m,i,rfl,h⟩:=aG hx;have gi:=bg h;obtain⟨hi2,hmb⟩:=dn h;rw[e_ h];have hK:=zF;have hS:=gd;have ex:((signed s m (i+k+((Sp+K2:Nat):Int)).toNat:Int):Rat)*Ue (Sp+K2)=rv (some b)*pz k:=by
  rw[cA h,aJ,aJ];unfold pz;have e:(i+k+((Sp+K2:Nat):Int)).toNat=(i+1074).toNat+(k+(K2:Int)).toNat:=by omega
  rw[e,Nat.pow_add,cq,Rat.natCast_mul,Rat.natCast_mul,Rat.natCast_mul,Rat.natCast_pow _ (k+(K2:Int)).toNat];generalize ((2 ^ (i+1074).toNat:Nat):Rat)=a;have e2:((2:Nat):Rat) ^ (k+(K2:Int)).toNat=(2:Rat) ^ (k+(K2:Int)).toNat:=rfl;rw[e2];generalize (2:Rat) ^ (k+(K2:Int)).toNat=c;generalize Ue Sp=u;generalize Ue K2=v;generalize (m:Rat)=n;cases s
  ·rw[if_neg (by decide),if_neg (by decide)]; grind
  ·rw[if_pos rfl,if_pos rfl]; grind
 by_cases hm:m=0
 ·have e1:rv (some b)*pz k=0:=by rw[<- ex,hm,bB]; exact Rat.zero_mul _
  rw[hm,cv,(gM s).2,e1]
 ·have hg:=jK hm (i:=i+k) (E:=Sp+K2) (by omega) (by rw[ex]; exact hb);have hpl : -1022<=i+k:=by
   rcases h0 with h0 | ⟨n,hn,hnk,h0⟩
   ·exfalso;rw[cA h,aJ]at h0;have hp:0<((m*2 ^ (i+1074).toNat:Nat):Rat)*Ue Sp:=Rat.mul_pos (Rat.natCast_pos.2 (Nat.mul_pos (Nat.pos_of_ne_zero hm) (Nat.two_pow_pos _))) (bH _);generalize ((m*2 ^ (i+1074).toNat:Nat):Rat)=y at *;cases s
    ·rw[if_neg (by decide)]at h0; grind
    ·rw[if_pos rfl]at h0; grind
   ·have hun:=bH n;have hp:0<((m*2 ^ (i+1074).toNat:Nat):Rat)*Ue Sp:=Rat.mul_pos (Rat.natCast_pos.2 (Nat.mul_pos (Nat.pos_of_ne_zero hm) (Nat.two_pow_pos _))) (bH _);have hle:Ue n<=((m*2 ^ (i+1074).toNat:Nat):Rat)*Ue Sp:=by
     rw[cA h,aJ]at h0;generalize ((m*2 ^ (i+1074).toNat:Nat):Rat)=y at *;cases s
     ·rw[if_neg (by decide)]at h0; rcases h0 with h0 | h0 <;> grind
     ·rw[if_pos rfl]at h0; rcases h0 with h0 | h0 <;> grind
    have:=AW hmb hn hle;omega
  have hr:=yV s hm hmb hpl (by have:=Nat.zero_le m.log2; omega);rw[cA hr,<- ex,aJ,aJ];have hl:m.log2<=52:=by have:=(Nat.log2_lt hm).2 (by simpa using hmb:m<2 ^ 53); omega
  have e1:m <<< (52 - m.log2)*2 ^ (i+k - ((52 - m.log2:Nat):Int)+1074).toNat=m*2 ^ (i+k+1074).toNat:=by rw[Nat.shiftLeft_eq,Nat.mul_assoc,<- Nat.pow_add];congr 2; omega
  have e2:(i+k+((Sp+K2:Nat):Int)).toNat=(i+k+1074).toNat+K2:=by omega
  rw[e1,e2,Nat.pow_add,cq,<- Nat.mul_assoc,Rat.natCast_mul (m*2 ^ (i+k+1074).toNat)];have e3:((2 ^ K2:Nat):Rat)=(2:Rat) ^ K2:=by rw[Rat.natCast_pow]; rfl
  have e4:=bD K2;rw[e3];generalize ((m*2 ^ (i+k+1074).toNat:Nat):Rat)=y;generalize (2:Rat) ^ K2=p at *;generalize Ue K2=q at *;generalize Ue Sp=r;cases s
  ·rw[if_neg (by decide),if_neg (by decide)];have:y*p*(r*q)=y*r*(p*q):=by grind
   rw[this,e4,Rat.mul_one]
  ·rw[if_pos rfl,if_pos rfl];have : -(y*p)*(r*q) = -y*r*(p*q):=by grind
   rw[this,e4,Rat.mul_one]
theorem Gb {z G a:Rat} (h1:1<=G*z) (hz:0<z) (ha:a=G\/a = -G) (r0 r1:Rat) (h0:0<=r0) (g1:0<=r1) {S:Rat} (hS:a*a+r0+r1=S):1<=S*(z*z):=by
 have zz:=Rat.mul_nonneg (Rat.le_of_lt hz) (Rat.le_of_lt hz);have a1:=Rat.mul_nonneg h0 zz;have a2:=Rat.mul_nonneg g1 zz;have a3:=Rat.mul_nonneg (by grind:0<=G*z - 1) (by grind:0<=G*z+1);have e:a*a=G*G:=by rcases ha with rfl | rfl <;> grind
 rw[e]at hS;subst hS;grind
def p3 (a b c:Fl):P3:=⟨rv a,rv b,rv c⟩
theorem XZ:tS=Ue 400:=by unfold tS; rfl
theorem Tm.far {a:Rat} (h:Tm a):a=0\/Ue 400<=a\/Ue 400 <= -a:=by
 rw[<- XZ];rcases h with h | h | h
 ·exact .inl h
 ·exact .inr (.inl h.1)
 ·exact .inr (.inr h.1)
theorem Tm.great {a G:Rat} (h:Tm a) (hG:0<G) (ha:a=G\/a = -G):Ue 400<=G/\G<=tG:=by
 have:=mu;rw[<- XZ];rcases h with h | h | h <;> rcases ha with rfl | rfl
 ·exact absurd h (by grind)
 ·exact absurd h (by grind)
 ·exact h
 ·exact absurd h.1 (by grind)
 ·exact absurd h.1 (by grind)
 ·exact⟨by grind,by grind⟩
theorem OL {T n r:Rat} (hT:1<=T) (hn:Bd (n - T) (5*uu*(T+1 / 10000))) (hr:Bd (r - n) (3*uu*n)):Bd (r - T) (81 / 10*uu*T):=by obtain⟨a,b⟩:=hn;obtain⟨c,d⟩:=hr;exact⟨by grind,by grind⟩
theorem Q3 {r S z q:Rat} (hq:0<q) (hz:z*q=1) (h:Bd (r*r - S*(z*z)) (81 / 10*uu*(S*(z*z)))):Bd (r*q*(r*q) - S) (81 / 10*uu*S):=by
 have h2:=Bd.mul h (⟨by have:=Rat.mul_pos hq hq; grind,Rat.le_refl⟩:Bd (q*q) (q*q));have e1:(r*r - S*(z*z))*(q*q)=r*q*(r*q) - S*(z*q)*(z*q):=by grind
 have e2:81 / 10*uu*(S*(z*z))*(q*q)=81 / 10*uu*(S*(z*q)*(z*q)):=by grind
 rw[e1,e2,hz,Rat.mul_one,Rat.mul_one]at h2;exact h2
theorem abd {G z:Rat} {n:Nat} (h1:1<=G*z) (hG:G<=2 ^ n) (hz:0<z):Ue n<=z:=by
 have h:=bD n;have hu:=bH n;have a:=Rat.mul_nonneg (by grind:0<=(2:Rat) ^ n - G) (Rat.le_of_lt hz);generalize (2:Rat) ^ n=P at *;have b:=Rat.mul_nonneg (by grind:0<=P*z - 1) (Rat.le_of_lt hu);have e:(P*z - 1)*Ue n=P*Ue n*z - Ue n:=by grind
 rw[e,h]at b;grind
theorem BO {N:Nat} (hN:1000<=N) {X Y Z:Fl} (fX:ar X=true) (fY:ar Y=true) (fZ:ar Z=true) (wX:FW X) (wY:FW Y) (wZ:FW Z) (tX:Tm (rv X)) (tY:Tm (rv Y)) (tZ:Tm (rv Z)) (hne:rv X ≠ 0\/rv Y ≠ 0\/rv Z ≠ 0) :
    ∃ d,ar d=true/\0<rv d/\Bd (rv d*rv d - (rv X*rv X+rv Y*rv Y+rv Z*rv Z)) (81 / 10*uu*(rv X*rv X+rv Y*rv Y+rv Z*rv Z)) /\ ∀ κ,jk N [X,Y,Z] κ=κ d 0:=by
  have hl:[X,Y,Z].length<=48:=le3 X Y Z;have hSm:zG N [X,Y,Z].length:=fN hN hl;have d1:decide ((([X,Y,Z].length:Nat):Int)>48)=false:=dZ (by simp);have n0:((0:Int) != 0)=false:=by decide
  have ha:=kP fX fY fZ;have hf:=wg (FW3 wX wY wZ) ha;obtain⟨hm,hmw⟩:=j6 hf [X,Y,Z].length (Nat.le_refl _);have q1:∀ κ,jk N [X,Y,Z] κ=xX N [X,Y,Z] (λxr=>cond (!ar xr) (κ (some 0) 5) (κ xr 0)):=by intro κ;unfold jk zu D2 zB;rw[d1,cond_false,pO [X,Y,Z] hSm,ha];dsimp only;rw[Bool.not_true,cond_false,n0,cond_false];simp only[Ln,Cu,Ff]
  have h0:feq (cQ [X,Y,Z] [X,Y,Z].length) (some 0)=false:=by
    cases h0:feq (cQ [X,Y,Z] [X,Y,Z].length) (some 0)with
    | false=>rfl
    | true=>
      exfalso;have z0:rv X=0:=ip hf h0 (i:=0) (Nat.le_of_ble_eq_true rfl);have z1:rv Y=0:=ip hf h0 (i:=1) (Nat.le_of_ble_eq_true rfl);have z2:rv Z=0:=ip hf h0 (i:=2) (Nat.le_of_ble_eq_true rfl);rcases hne with h | h | h
      · exact h z0
      · exact h z1
      · exact h z2
  obtain⟨fr,e,he,he1,he2,hfin,-⟩:=LB (N:=N) hf h0;obtain⟨fr',e',he',-,-,G,G0,G1,G2,G3,j',hj',hge'⟩:=Bb (N:=N) hf h0;have hee:=w_ he he';subst hee;have hz:=xR (1 - e);have hpp:=xR (e - 1);have hpi:pz (1 - e)*pz (e - 1)=1:=agQ (by omega) (by omega) (by omega);have c0:Bd (rv X) G:=G3 0 (Nat.le_of_ble_eq_true rfl);have c1:Bd (rv Y) G:=G3 1 (Nat.le_of_ble_eq_true rfl);have c2:Bd (rv Z) G:=G3 2 (Nat.le_of_ble_eq_true rfl);have hzb:Bd (pz (1 - e)) (pz (1 - e)):=⟨by grind,Rat.le_refl⟩
  have m0:=(c0.mul hzb).mono G2;have m1:=(c1.mul hzb).mono G2;have m2:=(c2.mul hzb).mono G2;have hB:=jg;have z0:=ak (rv X);have z1:=ak (rv Y);have z2:=ak (rv Z);have hGt:(Ue 400<=G/\G<=tG)/\1<=(rv X*rv X+rv Y*rv Y+rv Z*rv Z)*(pz (1 - e)*pz (1 - e)):=by
    match j',hj',hge' with
    | 0,_,h=>
      have h:rv X=G\/rv X = -G:=h;exact⟨tX.great G0 h,Gb G1 hz h _ _ z1 z2 rfl⟩
    | 1,_,h=>
      have h:rv Y=G\/rv Y = -G:=h;exact⟨tY.great G0 h,Gb G1 hz h _ _ z0 z2 (by grind)⟩
    | 2,_,h=>
      have h:rv Z=G\/rv Z = -G:=h;exact⟨tZ.great G0 h,Gb G1 hz h _ _ z0 z1 (by grind)⟩
  obtain⟨⟨hGl,hGg⟩,hone⟩:=hGt;have hzl:Ue 400<=pz (1 - e):=abd G1 (by have:tG=2 ^ 400:=(by unfold tG; rfl); rw[<- this]; exact hGg) hz;have hk1:=Uo (by omega) (by omega) hzl;have hql:Ue 401<=pz (e - 1):=by
    have h3:=CI 400;have a:=Rat.mul_nonneg (by grind:0<=2 - G*pz (1 - e)) (Rat.le_of_lt hpp);have b:(2 - G*pz (1 - e))*pz (e - 1)=2*pz (e - 1) - G*(pz (1 - e)*pz (e - 1)):=by grind
    rw[b,hpi]at a;grind
  have hk2:=Uo (by omega) (by omega) hql;have hqg:pz (e - 1)<=G:=by
    have a:=Rat.mul_nonneg (by grind:0<=G*pz (1 - e) - 1) (Rat.le_of_lt hpp);have b:G*pz (1 - e)*pz (e - 1)=G:=by rw[Rat.mul_assoc,hpi,Rat.mul_one]
    grind
  have sx:∀{x:Fl},ar x=true->Tm (rv x)->Bd (rv x*pz (1 - e)) 2->ar (aF x (1 - e))=true/\rv (aF x (1 - e))=rv x*pz (1 - e):=by
    intro x fx tx bx;refine Ba fx (by omega) ?_ (bx.mono (by grind));rcases tx.far with h | h
    · exact .inl h
    · exact .inr ⟨400,by omega,by omega,h⟩
  obtain⟨f0,e0⟩:=sx fX tX m0;obtain⟨f1,e1⟩:=sx fY tY m1;obtain⟨f2,e2⟩:=sx fZ tZ m2;obtain⟨n1,n2⟩:=OK f0 f1 f2 (by rw[e0]; exact m0.mono (by grind)) (by rw[e1]; exact m1.mono (by grind)) (by rw[e2]; exact m2.mono (by grind));have hsum:ks (scl [X,Y,Z] (0 - (e - 1))) [X,Y,Z].length=ai (ai (ai (some 0) (af (aF X (1 - e)) (aF X (1 - e)))) (af (aF Y (1 - e)) (aF Y (1 - e)))) (af (aF Z (1 - e)) (aF Z (1 - e))):=by rw[show(0 - (e - 1):Int)=1 - e by omega]; rfl
  have hg:NN (dm (ks (scl [X,Y,Z] (0 - (e - 1))) [X,Y,Z].length)):=CG (CH hf _ _ (Nat.le_refl _));have s1:=λκ=>TY N hg (e:=e - 1) (by omega) (by omega) κ
  have r1':∀ κ,jk N [X,Y,Z] κ=(λxr=>cond (!ar xr) (κ (some 0) 5) (κ xr 0)) (aF (dm (ks (scl [X,Y,Z] (0 - (e - 1))) [X,Y,Z].length)) (e - 1)):=by intro κ;rw[q1];unfold xX zx;rw[BL hN hl,h0,cond_false,he];dsimp only;rw[al (aq (by omega) (by omega)),Bool.not_true,cond_false,KH hN hl hf (by omega) (by omega),s1]
  rw[hsum]at r1';generalize ai (ai (ai (some 0) (af (aF X (1 - e)) (aF X (1 - e)))) (af (aF Y (1 - e)) (aF Y (1 - e)))) (af (aF Z (1 - e)) (aF Z (1 - e)))=n at *;have eT:rv (aF X (1 - e))*rv (aF X (1 - e))+rv (aF Y (1 - e))*rv (aF Y (1 - e))+rv (aF Z (1 - e))*rv (aF Z (1 - e))=(rv X*rv X+rv Y*rv Y+rv Z*rv Z)*(pz (1 - e)*pz (1 - e)):=by rw[e0,e1,e2]; grind
  rw[eT]at n2;have hT12:(rv X*rv X+rv Y*rv Y+rv Z*rv Z)*(pz (1 - e)*pz (1 - e))<=12:=by rw[<- eT,e0,e1,e2];have a:=m0.sq;have b:=m1.sq;have c:=m2.sq;grind
  have hn0:0<rv n:=by obtain⟨a,b⟩:=n2;generalize (rv X*rv X+rv Y*rv Y+rv Z*rv Z)*(pz (1 - e)*pz (1 - e))=s at *;clear eT z0 z1 z2;grind
  obtain⟨s2,s3,s4⟩:=uL n1 hn0;have hlen:=OL hone n2 s4;have hback:=Q3 hpp hpi hlen;have hr6:rv (dm n)<=6:=j4 (by grind) (by obtain⟨a,b⟩:=hlen;generalize (rv X*rv X+rv Y*rv Y+rv Z*rv Z)*(pz (1 - e)*pz (1 - e))=s at *;generalize rv (dm n)*rv (dm n)=r at *;clear eT z0 z1 z2 n2 s4 hback;grind)
  have hrl:Ue 1<=rv (dm n):=by
    have hu:Ue 1=1 / 2:=by have:=bD 1;rw[show(2:Rat) ^ 1=2 by decide +kernel]at this;grind
    rw[hu];refine j4 (Rat.le_of_lt s3) ?_;obtain⟨a,b⟩:=hlen;generalize (rv X*rv X+rv Y*rv Y+rv Z*rv Z)*(pz (1 - e)*pz (1 - e))=s at *;generalize rv (dm n)*rv (dm n)=r at *;clear eT z0 z1 z2 n2 s4 hback;grind
  have hrb:Bd (rv (dm n)*pz (e - 1)) (6*tG):=(Bd.mul (⟨by grind,hr6⟩:Bd (rv (dm n)) 6) (⟨by grind,by grind⟩:Bd (pz (e - 1)) tG))
  obtain⟨hfin',hex⟩:=Ba s2 (k:=e - 1) (by omega) (.inr ⟨1,by omega,by omega,.inl hrl⟩) (hrb.mono (EW (by grind)));refine⟨_,hfin',?_,?_,λκ=>by rw[r1']; dsimp only; rw[hfin']; rfl⟩
  · rw[hex]; exact Rat.mul_pos s3 hpp
  · rw[hex]; exact hback
theorem Pi {q0 q1 q2 y0 y1 y2 Y:Rat} (hY:y0+y1+y2=Y) (h:Bd (Y - 1) (82 / 10*uu)) (h0:Bd (q0 - y0) (401 / 100*uu*y0+uu / 100000)) (h1:Bd (q1 - y1) (401 / 100*uu*y1+uu / 100000)) (h2:Bd (q2 - y2) (401 / 100*uu*y2+uu / 100000)):Bd (q0+q1+q2 - 1) (132 / 10*uu):=by obtain⟨a,b⟩:=h;obtain⟨c,d⟩:=h0;obtain⟨e,f⟩:=h1;obtain⟨g,k⟩:=h2;exact⟨by grind,by grind⟩
theorem ahH {S D Y:Rat} (h:Bd (D - S) (81 / 10*uu*S)) (hS:0<=S) (hD:0<D) (hY:Y*D=S):Bd (Y - 1) (82 / 10*uu):=by
 refine Am hD ?_;have e:(Y - 1)*D=S - D:=by grind
 rw[e];obtain⟨a,b⟩:=h;exact⟨by grind,by grind⟩
structure Sh3 (X Y Z g:Fl):Prop where
 f:ar g=true
 p:0<rv g
 u:Bd ((p3 (fdiv X g) (fdiv Y g) (fdiv Z g)).dot (p3 (fdiv X g) (fdiv Y g) (fdiv Z g)) - 1) (132 / 10*uu)
 n:NB ((p3 X Y Z).sub (P3.scl (rv g) (p3 (fdiv X g) (fdiv Y g) (fdiv Z g)))) (4*uu*rv g)
 fx:ar (fdiv X g)=true
 fy:ar (fdiv Y g)=true
 fz:ar (fdiv Z g)=true
theorem wL {x g q:Rat} (hg:0<g) (h:Bd (q - x / g) (205 / 100*uu)):Bd (x - g*q) (205 / 100*uu*g):=by
 have hg0:g ≠ 0:=by grind
 have h2:=Bd.mul h (⟨by grind,Rat.le_refl⟩:Bd g g);have e:(q - x / g)*g=q*g - x:=by rw[Rat.sub_eq_add_neg,Rat.add_mul,Rat.neg_mul,Rat.div_mul_cancel hg0]; grind
 rw[e]at h2;obtain⟨a,b⟩:=h2;exact⟨by grind,by grind⟩
theorem vC {N:Nat} (hN:1000<=N) {X Y Z:Fl} (fX:ar X=true) (fY:ar Y=true) (fZ:ar Z=true) (wX:FW X) (wY:FW Y) (wZ:FW Z) (tX:Tm (rv X)) (tY:Tm (rv Y)) (tZ:Tm (rv Z)) (hne:rv X ≠ 0\/rv Y ≠ 0\/rv Z ≠ 0) :
  ∃ g,Sh3 X Y Z g /\ ∀ κ,jk N [X,Y,Z] κ=κ g 0:=by
 obtain⟨g,fg,g0,hg,hL⟩:=BO hN fX fY fZ wX wY wZ tX tY tZ hne;refine⟨g,?_,hL⟩;have hgg:=Rat.mul_pos g0 g0;have hg0:rv g ≠ 0:=by grind
 have e0:=eW hg0 (rfl:rv X / rv g=rv X / rv g);have e1:=eW hg0 (rfl:rv Y / rv g=rv Y / rv g);have e2:=eW hg0 (rfl:rv Z / rv g=rv Z / rv g);have z0:=ak (rv X / rv g);have z1:=ak (rv Y / rv g);have z2:=ak (rv Z / rv g);have eY:(rv X / rv g*(rv X / rv g)+rv Y / rv g*(rv Y / rv g)+rv Z / rv g*(rv Z / rv g))*(rv g*rv g)=rv X*rv X+rv Y*rv Y+rv Z*rv Z:=by rw[<- e0,<- e1,<- e2,Rat.add_mul,Rat.add_mul]
 have hS0:0<=rv X*rv X+rv Y*rv Y+rv Z*rv Z:=by have:=ak (rv X);have:=ak (rv Y);have:=ak (rv Z);grind
 have y1:=ahH hg hS0 hgg eY;clear e0 e1 e2 eY hS0 hg;generalize hYY:rv X / rv g*(rv X / rv g)+rv Y / rv g*(rv Y / rv g)+rv Z / rv g*(rv Z / rv g)=S at *;have hY2:S<=1001 / 1000:=by obtain⟨a,b⟩:=y1; grind
 have a0:rv X / rv g*(rv X / rv g)<=S:=by generalize rv X / rv g*(rv X / rv g)=x at *; grind
 have a1:rv Y / rv g*(rv Y / rv g)<=S:=by generalize rv Y / rv g*(rv Y / rv g)=x at *; grind
 have a2:rv Z / rv g*(rv Z / rv g)<=S:=by generalize rv Z / rv g*(rv Z / rv g)=x at *; grind
 have q0:=mi fX fg g0 (by grind:S<=2) a0;have q1:=mi fY fg g0 (by grind:S<=2) a1;have q2:=mi fZ fg g0 (by grind:S<=2) a2;have b0:=(j_ fX fg g0 hY2 a0).1;have b1:=(j_ fY fg g0 hY2 a1).1;have b2:=(j_ fZ fg g0 hY2 a2).1;refine⟨fg,g0,Pi hYY y1 q0.2 q1.2 q2.2,?_,q0.1,q1.1,q2.1⟩;exact(P3.NB.of (e:=205 / 100*uu*rv g) (wL g0 b0) (wL g0 b1) (wL g0 b2)).mono (by grind)
theorem aba (a b:Rat):Bd (a*b) ((a*a+b*b) / 2):=by have h1:=ak (a - b);have h2:=ak (a+b);exact⟨by grind,by grind⟩
theorem mn {x y:Fl} (fx:ar x=true) (fy:ar y=true) {m:Rat} (hm:(rv x*rv x+rv y*rv y) / 2=m) (hb:m<=10):ar (af x y)=true/\Bd (rv (af x y) - rv x*rv y) (uu*m+uu / 1000000)/\Bd (rv x*rv y) m/\0<=m:=by have h:=aba (rv x) (rv y);rw[hm]at h;have hB:=jg;have he:=lS;have he0:=dD;obtain⟨f,-,g⟩:=xI fx fy (h.mono (by grind));exact⟨f,(g m h).mono (by grind),h,h.nonneg⟩
theorem ZG {X1 X2 X3 P1 P2 P3 a1 a2 a3 s1 s2:Rat} (h1:Bd (X1 - P1) (uu*a1+uu / 1000000)) (h2:Bd (X2 - P2) (uu*a2+uu / 1000000)) (h3:Bd (X3 - P3) (uu*a3+uu / 1000000)) (g1:Bd P1 a1) (g2:Bd P2 a2) (g3:Bd P3 a3) (ha:a1+a2+a3<=1001 / 1000) (n1:0<=a1) (n2:0<=a2) (n3:0<=a3)
  (hs1:∀ A,Bd (X1+X2) A->Bd (s1 - (X1+X2)) (uu*A)) (hs2:∀ A,Bd (s1+X3) A->Bd (s2 - (s1+X3)) (uu*A)):Bd (s2 - (P1+P2+P3)) (302 / 100*uu)/\Bd s2 (1002 / 1000):=by
 have b12:Bd (X1+X2) (10001 / 10000*(a1+a2)+2 / 1000000):=by obtain⟨x,y⟩:=h1;obtain⟨z,w⟩:=h2;obtain⟨p,q⟩:=g1;obtain⟨r,t⟩:=g2;exact⟨by grind,by grind⟩
 have k1:=hs1 _ b12;have b3:Bd (s1+X3) (10003 / 10000*(a1+a2+a3)+4 / 1000000):=by obtain⟨x,y⟩:=k1;obtain⟨z,w⟩:=h3;obtain⟨p,q⟩:=g3;obtain⟨r,t⟩:=b12;clear h1 h2 g1 g2 hs1 hs2;exact⟨by grind,by grind⟩
 have k2:=hs2 _ b3;clear hs1 hs2;have e:Bd (s2 - (P1+P2+P3)) (302 / 100*uu):=by obtain⟨x1,y1⟩:=h1;obtain⟨x2,y2⟩:=h2;obtain⟨x3,y3⟩:=h3;obtain⟨z1,w1⟩:=k1;obtain⟨z2,w2⟩:=k2;clear g1 g2 g3 b12 b3;exact⟨by grind,by grind⟩
 refine⟨e,?_⟩;obtain⟨x,y⟩:=e;obtain⟨p,q⟩:=g1;obtain⟨r,t⟩:=g2;obtain⟨u,v⟩:=g3;clear h1 h2 h3 b12 b3 k1 k2;exact⟨by grind,by grind⟩
theorem ZA {X1 X2 P1 P2 a1 a2 s:Rat} (h1:Bd (X1 - P1) (uu*a1+uu / 1000000)) (h2:Bd (X2 - P2) (uu*a2+uu / 1000000)) (g1:Bd P1 a1) (g2:Bd P2 a2) (n1:0<=a1) (n2:0<=a2)
  (hs:∀ A,Bd (X1 - X2) A->Bd (s - (X1 - X2)) (uu*A)):Bd (s - (P1 - P2)) (2001 / 1000*uu*(a1+a2+1 / 100000)):=by
 have b12:Bd (X1 - X2) (10001 / 10000*(a1+a2)+2 / 1000000):=by obtain⟨x,y⟩:=h1;obtain⟨z,w⟩:=h2;obtain⟨p,q⟩:=g1;obtain⟨r,t⟩:=g2;exact⟨by grind,by grind⟩
 have k:=hs _ b12;clear hs g1 g2;obtain⟨x,y⟩:=h1;obtain⟨z,w⟩:=h2;obtain⟨p,q⟩:=k;exact⟨by grind,by grind⟩
theorem alA {w s P:Rat} (h:Bd (w - (1+s)) (uu*(2003 / 1000))) (g:Bd (s - P) (302 / 100*uu)):Bd (w - (1+P)) (51 / 10*uu):=by obtain⟨a,b⟩:=h;obtain⟨c,d⟩:=g;exact⟨by grind,by grind⟩
theorem agO {θ:P3} {k m0 m1 m2 e:Rat} (h0:Bd θ.x (k*m0)) (h1:Bd θ.y (k*m1)) (h2:Bd θ.z (k*m2)) (n0:0<=m0) (n1:0<=m1) (n2:0<=m2) (g0:m0<=10011 / 10000) (g1:m1<=10011 / 10000) (g2:m2<=10011 / 10000) (hs:m0+m1+m2<=20022 / 10000) (he:0<=e) (hk:k*k*(20044037 / 10000000)<=e*e):NB θ e:=by
 refine⟨he,?_⟩;have a0:=h0.sq;have a1:=h1.sq;have a2:=h2.sq;have s0:=Rat.mul_nonneg n0 (by grind:0<=10011 / 10000 - m0);have s1:=Rat.mul_nonneg n1 (by grind:0<=10011 / 10000 - m1);have s2:=Rat.mul_nonneg n2 (by grind:0<=10011 / 10000 - m2);have hkk:=ak k;have t:m0*m0+m1*m1+m2*m2<=20044037 / 10000000:=by grind
 have u:=Rat.mul_nonneg hkk (by grind:0<=20044037 / 10000000 - (m0*m0+m1*m1+m2*m2));have e0:k*m0*(k*m0)=k*k*(m0*m0):=by grind
 have e1:k*m1*(k*m1)=k*k*(m1*m1):=by grind
 have e2:k*m2*(k*m2)=k*k*(m2*m2):=by grind
 have e3:k*k*(20044037 / 10000000 - (m0*m0+m1*m1+m2*m2))=k*k*(20044037 / 10000000) - k*k*(m0*m0) - k*k*(m1*m1) - k*k*(m2*m2):=by grind
 rw[e0]at a0;rw[e1]at a1;rw[e2]at a2;rw[e3]at u;unfold P3.dot;generalize k*k*(m0*m0)=p0 at *;generalize k*k*(m1*m1)=p1 at *;generalize k*k*(m2*m2)=p2 at *;generalize k*k*(20044037 / 10000000)=q at *;clear e0 e1 e2 e3 s0 s1 s2 t hkk;grind
section
variable {c0 c1 c2 d0 d1 d2:Fl}
theorem abt (f0:ar c0=true) (f1:ar c1=true) (f2:ar c2=true) (g0:ar d0=true) (g1:ar d1=true) (g2:ar d2=true) (hA:Bd ((p3 c0 c1 c2).dot (p3 c0 c1 c2) - 1) (132 / 10*uu)) (hB:Bd ((p3 d0 d1 d2).dot (p3 d0 d1 d2) - 1) (132 / 10*uu))
  (hW:ar (ai (some 4607182418800017408) (mM c0 c1 c2 d0 d1 d2))=true->1 / 1048576<=rv (ai (some 4607182418800017408) (mM c0 c1 c2 d0 d1 d2))) :
  (ar (ai (some 4607182418800017408) (mM c0 c1 c2 d0 d1 d2))=true/\ar (co (af c1 d2) (af c2 d1))=true/\ar (co (af c2 d0) (af c0 d2))=true/\ar (co (af c0 d1) (af c1 d0))=true) /\
  Pr (p3 c0 c1 c2) (p3 d0 d1 d2) (p3 (co (af c1 d2) (af c2 d1)) (co (af c2 d0) (af c0 d2)) (co (af c0 d1) (af c1 d0))) (rv (ai (some 4607182418800017408) (mM c0 c1 c2 d0 d1 d2))):=by
 have sA:rv c0*rv c0+rv c1*rv c1+rv c2*rv c2<=10001 / 10000:=by have:=hA.2;unfold P3.dot p3 at this;simp only at this;grind
 have sB:rv d0*rv d0+rv d1*rv d1+rv d2*rv d2<=10001 / 10000:=by have:=hB.2;unfold P3.dot p3 at this;simp only at this;grind
 have z0:=ak (rv c0);have z1:=ak (rv c1);have z2:=ak (rv c2);have y0:=ak (rv d0);have y1:=ak (rv d1);have y2:=ak (rv d2);obtain⟨p00,b00,q00,n00⟩:=mn f0 g0 rfl (by grind);obtain⟨p11,b11,q11,n11⟩:=mn f1 g1 rfl (by grind);obtain⟨p22,b22,q22,n22⟩:=mn f2 g2 rfl (by grind);obtain⟨p12,b12,q12,n12⟩:=mn f1 g2 rfl (by grind);obtain⟨p21,b21,q21,n21⟩:=mn f2 g1 rfl (by grind);obtain⟨p20,b20,q20,n20⟩:=mn f2 g0 rfl (by grind);obtain⟨p02,b02,q02,n02⟩:=mn f0 g2 rfl (by grind);obtain⟨p01,b01,q01,n01⟩:=mn f0 g1 rfl (by grind);obtain⟨p10,b10,q10,n10⟩:=mn f1 g0 rfl (by grind);have hBg:=jg;have big:∀{x P a:Rat},Bd (x - P) (uu*a+uu / 1000000)->Bd P a->a<=10->Bd x 11:=by intro x P a h1 h2 h3;obtain⟨a1,a2⟩:=h1;obtain⟨a3,a4⟩:=h2;exact⟨by grind,by grind⟩
 have x00:=big b00 q00 (by grind);have x11:=big b11 q11 (by grind);have x22:=big b22 q22 (by grind);obtain⟨s1,t1⟩:=eR p00 p11 ((x00.add x11).mono (by grind));have x01:Bd (rv (ai (af c0 d0) (af c1 d1))) 23:=by have a:=t1 _ (x00.add x11);have b:=x00.add x11;obtain⟨a1,a2⟩:=a;obtain⟨b1,b2⟩:=b;exact⟨by grind,by grind⟩
 obtain⟨s2,t2⟩:=eR s1 p22 ((x01.add x22).mono (by grind));obtain⟨hd,hd2⟩:=ZG b00 b11 b22 q00 q11 q22 (by grind) n00 n11 n22 t1 t2;have o:=Ug;have o1:rv (some 4607182418800017408)=1:=by have:=o.2;obtain⟨a,b⟩:=this;grind
 have hsum:Bd (rv (some 4607182418800017408)+rv (mM c0 c1 c2 d0 d1 d2)) (2003 / 1000):=by rw[o1];obtain⟨a,b⟩:=hd2;exact⟨by show -(2003 / 1000)<=1+rv (ai (ai (af c0 d0) (af c1 d1)) (af c2 d2)); grind,by show 1+rv (ai (ai (af c0 d0) (af c1 d1)) (af c2 d2))<=2003 / 1000; grind⟩
 obtain⟨sW,tW⟩:=eR o.1 (s2:ar (mM c0 c1 c2 d0 d1 d2)=true) (hsum.mono (by grind));have kW:=tW _ hsum;rw[o1]at kW;have hd':Bd (rv (mM c0 c1 c2 d0 d1 d2) - (rv c0*rv d0+rv c1*rv d1+rv c2*rv d2)) (302 / 100*uu):=hd;have c3:∀{a b p q:Fl} {m n:Rat},ar (af a b)=true->ar (af p q)=true->Bd (rv (af a b) - rv a*rv b) (uu*m+uu / 1000000)->Bd (rv (af p q) - rv p*rv q) (uu*n+uu / 1000000)->Bd (rv a*rv b) m->Bd (rv p*rv q) n->0<=m->0<=n->m<=10->n<=10 ->
   ar (co (af a b) (af p q))=true/\Bd (rv (co (af a b) (af p q)) - (rv a*rv b - rv p*rv q)) (2001 / 1000*uu*(m+n+1 / 100000)):=by
  intro a b p q m n fa fp h1 h2 k1 k2 nm nn lm ln;obtain⟨s,t⟩:=Eh fa fp (((big h1 k1 lm).sub (big h2 k2 ln)).mono (by grind));exact⟨s,ZA h1 h2 k1 k2 nm nn t⟩
 obtain⟨v0,u0⟩:=c3 p12 p21 b12 b21 q12 q21 n12 n21 (by grind) (by grind);obtain⟨v1,u1⟩:=c3 p20 p02 b20 b02 q20 q02 n20 n02 (by grind) (by grind);obtain⟨v2,u2⟩:=c3 p01 p10 b01 b10 q01 q10 n01 n10 (by grind) (by grind);refine⟨⟨sW,v0,v1,v2⟩,hA,hB,?_,?_,hW sW⟩
 ·show Bd (rv (ai (some 4607182418800017408) (mM c0 c1 c2 d0 d1 d2)) - (1+(rv c0*rv d0+rv c1*rv d1+rv c2*rv d2))) (51 / 10*uu);exact alA kW hd'
 ·clear hd hd2 tW t1 t2 b00 b11 b22 b12 b21 b20 b02 b01 b10 hd' kW hsum q00 q11 q22 q12 q21 q20 q02 q01 q10 x00 x11 x22 x01 hW hA hB;exact agO u0 u1 u2 (by grind) (by grind) (by grind) (by grind) (by grind) (by grind) (by grind) (by grind) (by grind)
end
theorem nj {s g:Rat} (hg:0<g) (h:Bd (s / g) kap) (hs:99 / 100<=s\/99 / 100 <= -s):98 / 100<=g:=by
 have hg0:g ≠ 0:=by grind
 have h2:=Bd.mul h (⟨by grind,Rat.le_refl⟩:Bd g g);rw[Rat.div_mul_cancel hg0]at h2;obtain⟨a,b⟩:=h2;rcases hs with hs | hs <;> grind
theorem KU {q s g l z:Rat} (hg:98 / 100<=g) (h1:Bd (q - s / g) (205 / 100*uu)) (h2:Bd (s - l*z) (201 / 100*uu)):Bd (z / g*l - q) (42 / 10*uu):=by
 have hg0:g ≠ 0:=by grind
 have h3:Bd (s / g - z / g*l) (206 / 100*uu):=by
  refine Am (by grind:0<g) ?_;have e:(s / g - z / g*l)*g=s - l*z:=by
   have e1:s / g*g=s:=Rat.div_mul_cancel hg0;have e2:z / g*g=z:=Rat.div_mul_cancel hg0;have:(s / g - z / g*l)*g=s / g*g - z / g*g*l:=by grind
   rw[this,e1,e2]; grind
  rw[e];exact h2.mono (by grind)
 obtain⟨a,b⟩:=h1;obtain⟨c,d⟩:=h3;exact⟨by grind,by grind⟩
theorem agP {ν n N M:Rat} (h0:0<=ν) (h1:Bd (ν*N - M) (34*uu)) (h2:Bd (M - 1) (16*uu)) (h3:Bd (N - n) (43*uu)) (hn:1 / 524288<=n):Bd (ν*n - 1) (1 / 1000000)/\0<=ν*N/\ν*N<=10001 / 10000:=by
 have a:Bd (ν*N - 1) (50*uu):=by obtain⟨x,y⟩:=h1;obtain⟨z,w⟩:=h2;exact⟨by grind,by grind⟩
 have hN:1 / 524289<=N:=by obtain⟨x,y⟩:=h3; grind
 have b:=Rat.mul_nonneg h0 (by grind:0<=N - 1 / 524289);have c:ν<=525000:=by obtain⟨x,y⟩:=a; grind
 have d:=Bd.mul (⟨by grind,c⟩:Bd ν 525000) h3;have e:ν*(N - n)=ν*N - ν*n:=by grind
 rw[e]at d;obtain⟨x,y⟩:=a;obtain⟨z,w⟩:=d;exact⟨⟨by grind,by grind⟩,by grind,by grind⟩
theorem E6 {t T r0 r1 n p M ra' rb' rc' ra rb rc a b c:Rat} (h:Bd (t - T) (75*uu*M)) (hT:T=r0 - (n - 1)*p) (hn:Bd (n - 1) (16*uu)) (hp:Bd p M) (hr0:r0=ra*a+rb*b+rc*c) (hr1:r1=ra'*a+rb'*b+rc'*c) (d0:Bd (ra' - ra) (34*uu)) (d1:Bd (rb' - rb) (34*uu)) (d2:Bd (rc' - rc) (34*uu)) (ha:Bd a M) (hb:Bd b M) (hc:Bd c M):Bd (t - r1) (195*uu*M):=by
 have q0:=d0.mul ha;have q1:=d1.mul hb;have q2:=d2.mul hc;have q3:=hn.mul hp;have e:t - r1=(t - T) - (n - 1)*p - (ra' - ra)*a - (rb' - rb)*b - (rc' - rc)*c:=by rw[hT,hr0,hr1]; grind
 rw[e];have h5:=(((h.sub q3).sub q0).sub q1).sub q2;exact h5.mono (by have:=hp.nonneg; grind)
theorem sr (w x y z p q r:Rat):R0 w x y z p q r=ra w x y z*p+rb w x y z*q+rc w x y z*r:=rfl
theorem NP (l w x y z:Rat) (p:P3):Rot (l*w) (l*x) (l*y) (l*z) p=P3.scl (l*l) (Rot w x y z p):=by apply P3.ext' <;> (unfold Rot R0 ra rb rc P3.scl; grind)
theorem QG (l w x y z:Rat):Nq (l*w) (l*x) (l*y) (l*z)=l*l*Nq w x y z:=by unfold Nq; grind
theorem Uc (w x y z:Rat):Nq w y z x - 1=Nq w x y z - 1/\Nq w z x y - 1=Nq w x y z - 1:=by constructor <;> (unfold Nq; grind)
theorem ph {x y d:Rat} (h:Bd (x - y) (4*(2*kap*(42 / 10*uu)+42 / 10*uu*(42 / 10*uu)))):Bd (x - y) (34*uu):=h.mono (by grind)
theorem El {w x y z p q r:Fl} {M l W X Y Z:Rat} (hR:su M) (h:bA [w,x,y,z]=true) (hu:Bd (Nq (rv w) (rv x) (rv y) (rv z) - 1) (16*uu)) (fp:ar p=true) (fq:ar q=true) (fr:ar r=true) (bp:Bd (rv p) M) (bq:Bd (rv q) M) (br:Bd (rv r) M)
  (dw:Bd (l*W - rv w) (42 / 10*uu)) (dx:Bd (l*X - rv x) (42 / 10*uu)) (dy:Bd (l*Y - rv y) (42 / 10*uu)) (dz:Bd (l*Z - rv z) (42 / 10*uu)) :
  (ar (t0 w x y z p q r)=true/\ar (t1 w x y z p q r)=true/\ar (t2 w x y z p q r)=true)/\NB ((p3 (t0 w x y z p q r) (t1 w x y z p q r) (t2 w x y z p q r)).sub (P3.scl (l*l) (Rot W X Y Z (p3 p q r)))) (340*uu*M)/\Bd (l*l*Nq W X Y Z - Nq (rv w) (rv x) (rv y) (rv z)) (34*uu):=by
 have hu2:Bd (Nq (rv w) (rv x) (rv y) (rv z) - 1) (1 / 1000):=hu.mono (by grind);obtain⟨bw,bx,bY,bz⟩:=Kq hu2;obtain⟨A0,A1,A2⟩:=Bi hR h hu2 fp fq fr bp bq br;obtain⟨o1,o2,o3⟩:=rM bw bx bY bz dw dx dy dz;obtain⟨o4,o5,o6⟩:=rM bw bY bz bx dw dy dz dx;obtain⟨o7,o8,o9⟩:=rM bw bz bx bY dw dz dx dy;have oN:=QF bw bx bY bz dw dx dy dz;have hM:=bp.nonneg;have T0q:=oM (rv w) (rv x) (rv y) (rv z) (rv p) (rv q) (rv r);have T1q:=oM (rv w) (rv y) (rv z) (rv x) (rv q) (rv r) (rv p);have T2q:=oM (rv w) (rv z) (rv x) (rv y) (rv r) (rv p) (rv q);obtain⟨c1,c2⟩:=Uc (rv w) (rv x) (rv y) (rv z);refine⟨⟨A0.1,A1.1,A2.1⟩,?_,?_⟩
 ·rw[<- NP];refine(P3.NB.of (e:=195*uu*M) ?_ ?_ ?_).mono (by grind)
  ·exact E6 A0.2 T0q hu bp (sr _ _ _ _ _ _ _) (sr _ _ _ _ _ _ _) (ph (d:=0) o1) (ph (d:=0) o2) (ph (d:=0) o3) bp bq br
  ·exact E6 A1.2 T1q (by rw[<- c1]at hu; exact hu) bq (sr _ _ _ _ _ _ _) (sr _ _ _ _ _ _ _) (ph (d:=0) o4) (ph (d:=0) o5) (ph (d:=0) o6) bq br bp
  ·exact E6 A2.2 T2q (by rw[<- c2]at hu; exact hu) br (sr _ _ _ _ _ _ _) (sr _ _ _ _ _ _ _) (ph (d:=0) o7) (ph (d:=0) o8) (ph (d:=0) o9) br bp bq
 ·rw[QG]at oN;exact ph (d:=0) oN
theorem amN {a b c:Fl} (fa:ar a=true) (fb:ar b=true) (fc:ar c=true) (h:rv a ≠ 0\/rv b ≠ 0\/rv c ≠ 0):(feq a (some 0)&&(feq b (some 0)&&feq c (some 0)))=false:=by
 obtain⟨z1,z2⟩:=jv;have key:∀{x:Fl},ar x=true->rv x ≠ 0->feq x (some 0)=false:=by
  intro x fx hx;cases h:feq x (some 0)with
  | false=>rfl
  | true=>exact absurd (by rw[(pB fx z1).1 h,z2]) hx
 rcases h with h | h | h
 ·rw[key fa h]; rfl
 ·rw[key fb h]; cases feq a (some 0) <;> rfl
 ·rw[key fc h]; cases feq a (some 0) <;> cases feq b (some 0) <;> rfl
def Wq (c0 c1 c2 d0 d1 d2:Fl):Fl:=ai (some 4607182418800017408) (mM c0 c1 c2 d0 d1 d2)
def Vx (c0 c1 c2 d0 d1 d2:Fl):Fl:=co (af c1 d2) (af c2 d1)
def Vy (c0 c1 c2 d0 d1 d2:Fl):Fl:=co (af c2 d0) (af c0 d2)
def Vz (c0 c1 c2 d0 d1 d2:Fl):Fl:=co (af c0 d1) (af c1 d0)
theorem Bs {N:Nat} (hN:1000<=N) {a b c p q r g h:Fl} (h1:bA [a,b,c]=true) (h2:bA [p,q,r]=true) (z1:(feq a (some 0)&&(feq b (some 0)&&feq c (some 0)))=false) (z2:(feq p (some 0)&&(feq q (some 0)&&feq r (some 0)))=false)
  (gf:∀ κ,jk N [a,b,c] κ=κ g 0) (of:∀ κ,jk N [p,q,r] κ=κ h 0) (hz:feq (Wq (fdiv a g) (fdiv b g) (fdiv c g) (fdiv p h) (fdiv q h) (fdiv r h)) (some 0)=false) (κ:K4) :
  UM N a b c p q r κ=uJ N (Wq (fdiv a g) (fdiv b g) (fdiv c g) (fdiv p h) (fdiv q h) (fdiv r h)) (Vx (fdiv a g) (fdiv b g) (fdiv c g) (fdiv p h) (fdiv q h) (fdiv r h)) (Vy (fdiv a g) (fdiv b g) (fdiv c g) (fdiv p h) (fdiv q h) (fdiv r h)) (Vz (fdiv a g) (fdiv b g) (fdiv c g) (fdiv p h) (fdiv q h) (fdiv r h)) κ:=by
 have e1:UM N a b c p q r κ=NW (λx y z w=>uJ N x y z w κ) (fdiv a g) (fdiv b g) (fdiv c g) (fdiv p h) (fdiv q h) (fdiv r h):=by unfold UM NM;rw[pN _ (fN hN (Nat.le_of_ble_eq_true rfl)),h1,show((!true)==false)=true from rfl,cond_true,pN _ (fN hN (Nat.le_of_ble_eq_true rfl)),h2,Bool.not_true,cond_false,z1,show(false==false)=true from rfl,cond_true,z2,cond_false];unfold ahe Zf;have n0:((0:Int) != 0)=false:=rfl;rw[gf];dsimp only;rw[n0];simp only[cond_false];rw[of];simp only[n0,cond_false,AK];unfold Gl NK oL Qy;simp only[AK,dg,RS,cond_false];rfl
 rw[e1];unfold NW crs Nl;dsimp only;have hz':feq (ai (some 4607182418800017408) (mM (fdiv a g) (fdiv b g) (fdiv c g) (fdiv p h) (fdiv q h) (fdiv r h))) (some 0)=false:=hz;rw[hz'];rfl
theorem DM {N:Nat} (hN:1000<=N) {a b c p q r g h:Fl} (h1:bA [a,b,c]=true) (h2:bA [p,q,r]=true) (z1:(feq a (some 0)&&(feq b (some 0)&&feq c (some 0)))=false) (z2:(feq p (some 0)&&(feq q (some 0)&&feq r (some 0)))=false)
  (wa:FW a) (wb:FW b) (wc:FW c) (wp:FW p) (wq:FW q) (wr:FW r)
  (gf:∀ κ,jk N [a,b,c] κ=κ g 0) (of:∀ κ,jk N [p,q,r] κ=κ h 0) :
  ∃ x y z w n,∀ κ:K5,DP N a b c p q r κ=κ x y z w (mM (fdiv a g) (fdiv b g) (fdiv c g) (fdiv p h) (fdiv q h) (fdiv r h)) n:=by
 obtain⟨g',m,⟨-,hm⟩,gf',gg⟩:=vj hN (xs:=[a,b,c]) (le3 a b c) (FW3 wa wb wc);obtain⟨h',o,⟨-,ho⟩,of',og⟩:=vj hN (xs:=[p,q,r]) (le3 p q r) (FW3 wp wq wr);have same:∀{x y:Fl} {i j:Int} {f:(Fl->Int->Bool)->Bool},(∀ κ,f κ=κ x i)->(∀ κ,f κ=κ y j)->x=y/\i=j:=by intro x y i j f h1 h2;have h3:=h1 (λu v=>decide (u=x/\v=i));have h4:=h2 (λu v=>decide (u=x/\v=i));rw[h3]at h4;have:decide (y=x/\j=i)=true:=h4.symm.trans (decide_eq_true ⟨rfl,rfl⟩);have:=of_decide_eq_true this;exact⟨this.1.symm,this.2.symm⟩
 obtain⟨rfl,rfl⟩:=same gf gf';obtain⟨rfl,rfl⟩:=same of of';obtain⟨x,y,z,w,⟨w0,w1,w2,w3⟩,hB⟩:=NX hN (fdiv a g) (fdiv b g) (fdiv c g) (fdiv p h) (fdiv q h) (fdiv r h);obtain⟨x',y',z',w',n,hs,uf,ug⟩:=TU hN w0 w1 w2 w3;refine⟨x',y',z',w',n,λκ=>?_⟩;have e2:DP N a b c p q r κ=NW (λx y z w=>vA N x y z w (λx y z w n=>κ x y z w (mM (fdiv a g) (fdiv b g) (fdiv c g) (fdiv p h) (fdiv q h) (fdiv r h)) n)) (fdiv a g) (fdiv b g) (fdiv c g) (fdiv p h) (fdiv q h) (fdiv r h):=by unfold DP zr;rw[pb hN,pb hN,h1,h2];unfold ahb Y9;rw[Bool.not_true,cond_false,cond_false];dsimp only;rw[show((0:Int) != 0)=false from rfl,cond_false,z1,show(false==false)=true from rfl,cond_true,z2,cond_false,gg,og];have n0:((0:Int) != 0)=false:=rfl;have n1:(false==false)=true:=rfl;simp only[n0,n1,cond_true,cond_false,pg];unfold zC Kh;simp only[pg,dg];unfold NW crs Nl;dsimp only;show cond (feq (ai (some 4607182418800017408) (mM (fdiv a g) (fdiv b g) (fdiv c g) (fdiv p h) (fdiv q h) (fdiv r h))) (some 0)==true) _ _=_;cases feq (ai (some 4607182418800017408) (mM (fdiv a g) (fdiv b g) (fdiv c g) (fdiv p h) (fdiv q h) (fdiv r h))) (some 0) <;> rfl
 rw[e2,hB,ug]
theorem amI {M g:Rat} {a c:P3} (hM:0<=M) (h:M*M<=a.dot a) (hg:0<g) (hn:NB (a.sub (P3.scl g c)) (4*uu*g)) (hc:NB c (10001 / 10000)):M<=10003 / 10000*g:=by have h1:=(Dy hn hc (Rat.le_of_lt hg)).mono (f:=10003 / 10000*g) (by grind);exact j4 h1.1 (Rat.le_trans h h1.2)
theorem ahG {w a c V:P3} {W ν g M:Rat} (hg:0<g) (hν:0<=ν) (hN:0<=ν*(W*W+V.dot V)/\ν*(W*W+V.dot V)<=10001 / 10000) (h1:NB (w.sub (P3.scl ν (Rot W V.x V.y V.z a))) (340*uu*M)) (hM:M<=10003 / 10000*g) (hn:NB (a.sub (P3.scl g c)) (4*uu*g)):NB (w.sub (P3.scl g (P3.scl ν (Rot W V.x V.y V.z c)))) (500*uu*g):=by
 have hN0:0<=Nq W V.x V.y V.z:=by rw[Bp];have:=bu V;have:=ak W;grind
 have h2:=(hn.rot (w:=W) (x:=V.x) (y:=V.y) (z:=V.z) hN0).scl (c:=ν) (k:=ν) ⟨by grind,Rat.le_refl⟩;rw[Zo,Zn]at h2;have h3:=h1.add h2;have i:(w.sub (P3.scl ν (Rot W V.x V.y V.z a))).add (P3.scl ν ((Rot W V.x V.y V.z a).sub (P3.scl g (Rot W V.x V.y V.z c))))=w.sub (P3.scl g (P3.scl ν (Rot W V.x V.y V.z c))):=by generalize Rot W V.x V.y V.z a=s;generalize Rot W V.x V.y V.z c=t;apply P3.ext' <;> (unfold P3.add P3.scl P3.sub; grind)
 rw[i]at h3;refine h3.mono ?_;rw[Bp];have e:ν*((W*W+V.dot V)*(4*uu*g))=ν*(W*W+V.dot V)*(4*uu*g):=by grind
 rw[e];have:=Rat.mul_nonneg (by grind:0<=10001 / 10000 - ν*(W*W+V.dot V)) (by grind:0<=4*uu*g);generalize ν*(W*W+V.dot V)=q at *;have e2:(10001 / 10000 - q)*(4*uu*g)=10001 / 10000*(4*uu*g) - q*(4*uu*g):=by grind
 rw[e2]at this;generalize q*(4*uu*g)=z at *;grind
theorem kl {s x G z:Rat} (hG:1<=G*z) (hs:Bd (s - x*z) (201 / 100*uu)) (hx:x=G\/x = -G):99 / 100<=s\/99 / 100 <= -s:=by
 obtain⟨a,b⟩:=hs;rcases hx with rfl | rfl
 ·left; grind
 ·right;have : -G*z = -(G*z):=Rat.neg_mul _ _;rw[this]at a b;grind
theorem yY {N:Nat} (hN:1000<=N) {a0 a1 a2 b0 b1 b2 g h:Fl} (fa0:ar a0=true) (fa1:ar a1=true) (fa2:ar a2=true) (ta0:Tm (rv a0)) (ta1:Tm (rv a1)) (ta2:Tm (rv a2)) (hA:Sh3 a0 a1 a2 g) (hB:Sh3 b0 b1 b2 h)
  (hW:ar (Wq (fdiv a0 g) (fdiv a1 g) (fdiv a2 g) (fdiv b0 h) (fdiv b1 h) (fdiv b2 h))=true->1 / 1048576<=rv (Wq (fdiv a0 g) (fdiv a1 g) (fdiv a2 g) (fdiv b0 h) (fdiv b1 h) (fdiv b2 h))) :
  feq (Wq (fdiv a0 g) (fdiv a1 g) (fdiv a2 g) (fdiv b0 h) (fdiv b1 h) (fdiv b2 h)) (some 0)=false /\
  ∃ w x y z,(∀ κ,uJ N (Wq (fdiv a0 g) (fdiv a1 g) (fdiv a2 g) (fdiv b0 h) (fdiv b1 h) (fdiv b2 h)) (Vx (fdiv a0 g) (fdiv a1 g) (fdiv a2 g) (fdiv b0 h) (fdiv b1 h) (fdiv b2 h)) (Vy (fdiv a0 g) (fdiv a1 g) (fdiv a2 g) (fdiv b0 h) (fdiv b1 h) (fdiv b2 h)) (Vz (fdiv a0 g) (fdiv a1 g) (fdiv a2 g) (fdiv b0 h) (fdiv b1 h) (fdiv b2 h)) κ=κ w x y z 0) /\
   (∀ κ:Fl->Fl->Fl->Int->Bool,A4 N w x y z a0 a1 a2 κ=κ (t0 w x y z a0 a1 a2) (t1 w x y z a0 a1 a2) (t2 w x y z a0 a1 a2) 0) /\
   (ar (t0 w x y z a0 a1 a2)=true/\ar (t1 w x y z a0 a1 a2)=true/\ar (t2 w x y z a0 a1 a2)=true) /\
   (∃ M,M<=tG/\Bd (rv (t0 w x y z a0 a1 a2)) (304 / 100*M)/\Bd (rv (t1 w x y z a0 a1 a2)) (304 / 100*M)/\Bd (rv (t2 w x y z a0 a1 a2)) (304 / 100*M)) /\
   oI (rv (t0 w x y z a0 a1 a2)) (rv b0) ((p3 (t0 w x y z a0 a1 a2) (t1 w x y z a0 a1 a2) (t2 w x y z a0 a1 a2)).dot (p3 (t0 w x y z a0 a1 a2) (t1 w x y z a0 a1 a2) (t2 w x y z a0 a1 a2))) ((p3 b0 b1 b2).dot (p3 b0 b1 b2)) /\
   oI (rv (t1 w x y z a0 a1 a2)) (rv b1) ((p3 (t0 w x y z a0 a1 a2) (t1 w x y z a0 a1 a2) (t2 w x y z a0 a1 a2)).dot (p3 (t0 w x y z a0 a1 a2) (t1 w x y z a0 a1 a2) (t2 w x y z a0 a1 a2))) ((p3 b0 b1 b2).dot (p3 b0 b1 b2)) /\
   oI (rv (t2 w x y z a0 a1 a2)) (rv b2) ((p3 (t0 w x y z a0 a1 a2) (t1 w x y z a0 a1 a2) (t2 w x y z a0 a1 a2)).dot (p3 (t0 w x y z a0 a1 a2) (t1 w x y z a0 a1 a2) (t2 w x y z a0 a1 a2))) ((p3 b0 b1 b2).dot (p3 b0 b1 b2)):=by
 obtain⟨⟨fW,fX,fY,fZ⟩,H⟩:=abt hA.fx hA.fy hA.fz hB.fx hB.fy hB.fz hA.u hB.u hW;have hW0:=H.W0;change ar (Wq (fdiv a0 g) (fdiv a1 g) (fdiv a2 g) (fdiv b0 h) (fdiv b1 h) (fdiv b2 h))=true at fW;change ar (Vx (fdiv a0 g) (fdiv a1 g) (fdiv a2 g) (fdiv b0 h) (fdiv b1 h) (fdiv b2 h))=true at fX;change ar (Vy (fdiv a0 g) (fdiv a1 g) (fdiv a2 g) (fdiv b0 h) (fdiv b1 h) (fdiv b2 h))=true at fY;change ar (Vz (fdiv a0 g) (fdiv a1 g) (fdiv a2 g) (fdiv b0 h) (fdiv b1 h) (fdiv b2 h))=true at fZ;change Pr _ _ (p3 (Vx (fdiv a0 g) (fdiv a1 g) (fdiv a2 g) (fdiv b0 h) (fdiv b1 h) (fdiv b2 h)) (Vy (fdiv a0 g) (fdiv a1 g) (fdiv a2 g) (fdiv b0 h) (fdiv b1 h) (fdiv b2 h)) (Vz (fdiv a0 g) (fdiv a1 g) (fdiv a2 g) (fdiv b0 h) (fdiv b1 h) (fdiv b2 h))) (rv (Wq (fdiv a0 g) (fdiv a1 g) (fdiv a2 g) (fdiv b0 h) (fdiv b1 h) (fdiv b2 h)))at H;change 1 / 1048576<=rv (Wq (fdiv a0 g) (fdiv a1 g) (fdiv a2 g) (fdiv b0 h) (fdiv b1 h) (fdiv b2 h))at hW0;have wW:FW (Wq (fdiv a0 g) (fdiv a1 g) (fdiv a2 g) (fdiv b0 h) (fdiv b1 h) (fdiv b2 h)):=qp _ _;have wX:FW (Vx (fdiv a0 g) (fdiv a1 g) (fdiv a2 g) (fdiv b0 h) (fdiv b1 h) (fdiv b2 h)):=dr _ _;have wY:FW (Vy (fdiv a0 g) (fdiv a1 g) (fdiv a2 g) (fdiv b0 h) (fdiv b1 h) (fdiv b2 h)):=dr _ _;have wZ:FW (Vz (fdiv a0 g) (fdiv a1 g) (fdiv a2 g) (fdiv b0 h) (fdiv b1 h) (fdiv b2 h)):=dr _ _;have nc:=rH H.A;have hAn:=hA.n;have hBn:=hB.n;have g0:=hA.p;have h0:=hB.p;generalize p3 (fdiv a0 g) (fdiv a1 g) (fdiv a2 g)=C at *;generalize p3 (fdiv b0 h) (fdiv b1 h) (fdiv b2 h)=D at *;generalize Wq (fdiv a0 g) (fdiv a1 g) (fdiv a2 g) (fdiv b0 h) (fdiv b1 h) (fdiv b2 h)=W at *;generalize Vx (fdiv a0 g) (fdiv a1 g) (fdiv a2 g) (fdiv b0 h) (fdiv b1 h) (fdiv b2 h)=X at *;generalize Vy (fdiv a0 g) (fdiv a1 g) (fdiv a2 g) (fdiv b0 h) (fdiv b1 h) (fdiv b2 h)=Y at *;generalize Vz (fdiv a0 g) (fdiv a1 g) (fdiv a2 g) (fdiv b0 h) (fdiv b1 h) (fdiv b2 h)=Z at *;obtain⟨z1,z2⟩:=jv;have hne:rv W ≠ 0:=by grind
 refine⟨?_,?_⟩
 ·cases hh:feq W (some 0)with
  | false=>rfl
  | true=>exact absurd (by rw[(pB fW z1).1 hh,z2]) hne
 obtain⟨k,l,G,hk,hU,⟨u0,u1,u2,u3⟩,⟨hall,hun⟩,l0,⟨p0,r0⟩,⟨p1,r1⟩,⟨p2,r2⟩,⟨p3',r3⟩,hNq,G0,G1,G2,c0,c1,c2,c3,hone⟩:=Pl hN wW wX wY wZ (CM fW fX fY fZ) (.inl hne);have hz:=xR k;have hzb:Bd (pz k) (pz k):=⟨by grind,Rat.le_refl⟩
 have hBg:=jg;have he:=lS;have he0:=dD;have sc:∀{x:Fl},ar x=true->Bd (rv x) G->Bd (rv (aF x k) - rv x*pz k) (201 / 100*uu):=by intro x fx bx;have m:=(bx.mul hzb).mono G2;exact(yc fx hk (m.mono (by grind)) 2 m).mono (by grind)
 have s0:=sc fW c0;have s1:=sc fX c1;have s2:=sc fY c2;have s3:=sc fZ c3;have hgl:98 / 100<=rv l:=by
  rcases hone with h | h | h | h | h | h | h | h
  ·exact nj l0 r0 (kl G1 s0 (.inl h))
  ·exact nj l0 r0 (kl G1 s0 (.inr h))
  ·exact nj l0 r1 (kl G1 s1 (.inl h))
  ·exact nj l0 r1 (kl G1 s1 (.inr h))
  ·exact nj l0 r2 (kl G1 s2 (.inl h))
  ·exact nj l0 r2 (kl G1 s2 (.inr h))
  ·exact nj l0 r3 (kl G1 s3 (.inl h))
  ·exact nj l0 r3 (kl G1 s3 (.inr h))
 have d0:=KU hgl p0 s0;have d1:=KU hgl p1 s1;have d2:=KU hgl p2 s2;have d3:=KU hgl p3' s3;generalize fdiv (aF W k) l=w at *;generalize fdiv (aF X k) l=x at *;generalize fdiv (aF Y k) l=y at *;generalize fdiv (aF Z k) l=z at *;generalize pz k / rv l=L at *;have hun2:Bd (Nq (rv w) (rv x) (rv y) (rv z) - 1) (16*uu):=Bd.mono (by unfold Nq; exact hun) (by grind);obtain⟨M,hM0,bM0,bM1,bM2,hMM,hMe⟩:=Ph (rv a0) (rv a1) (rv a2);have hR:=Tm.room ta0 ta1 ta2 hM0 hMe;have hMt:=Tm.bnd ta0 ta1 ta2 hM0 hMe;obtain⟨⟨f0,f1,f2⟩,hT,hNN⟩:=El hR hall hun2 fa0 fa1 fa2 bM0 bM1 bM2 d0 d1 d2 d3;have hLL:=ak L;have eN:Nq (rv W) (rv X) (rv Y) (rv Z)=rv W*rv W+(p3 X Y Z).dot (p3 X Y Z):=by unfold Nq P3.dot p3; grind
 rw[eN]at hNN;obtain⟨hμ,hν1,hν2⟩:=agP hLL hNN hun2 H.N (by grind);have hMg:M<=10003 / 10000*rv g:=amI hM0 (a:=p3 a0 a1 a2) (by unfold P3.dot p3; exact hMM) g0 hAn nc;have hw:=ahG (w:=p3 (t0 w x y z a0 a1 a2) (t1 w x y z a0 a1 a2) (t2 w x y z a0 a1 a2)) (V:=p3 X Y Z) g0 hLL ⟨hν1,hν2⟩ hT hMg hAn;obtain⟨q0,q1,q2⟩:=H.asked hLL hμ g0 h0 hw hBn;have hn3:Bd (Nq (rv w) (rv x) (rv y) (rv z) - 1) (1 / 1000):=hun2.mono (by grind);obtain⟨A0,A1,A2⟩:=Bi hR hall hn3 fa0 fa1 fa2 bM0 bM1 bM2;obtain⟨e1,e2⟩:=Uc (rv w) (rv x) (rv y) (rv z);refine⟨w,x,y,z,hU,λκ=>abg hN hall (kP fa0 fa1 fa2) (kP f0 f1 f2) κ,⟨f0,f1,f2⟩,⟨M,?_,F7 A0 hn3 bM0 bM1 bM2,F7 A1 (by rw[e1]; exact hn3) bM1 bM2 bM0,F7 A2 (by rw[e2]; exact hn3) bM2 bM0 bM1⟩,q0,q1,q2⟩;rcases hMt with h | h
 ·rw[h]; exact Rat.le_of_lt uO
 ·exact h.2
theorem Ub {N:Nat} (hN:1000<=N) (k:Bool->List Int->Bool):ms N 4 k=k false [4]:=by
 obtain⟨M,rfl⟩:∃ M,N=M+1000:=⟨N - 1000,by omega⟩
 kernel_rfl
theorem N4:ao 4=[4]:=by rw[dk (by decide),aX]; rfl
theorem D8 (N:Nat) (z:Int) (k:Int->Bool):nG N (decide (z<0)) (ao z.natAbs) (λnr=>k nr)=k (oG z):=by
 rw[im];unfold oG;congr 1;by_cases h:z=0
 ·rw[if_pos (by omega),if_pos h]
 ·rw[if_neg (by omega),if_neg h];by_cases hl:z<0
  ·rw[if_pos (decide_eq_true hl),if_pos hl]
  ·rw[if_neg (by rw[decide_eq_false hl]; decide),if_neg hl]
def sqK (N:Nat) (x y:Int × Int) (κ:Int->Bool) (e:Int) (g:Bool) (l:List Int):Bool:=
 O3 N e e g l (λe2 g2 l2=>sZ0 N x.1 y.1 (decide (x.2<0)) (ao x.2.natAbs) (decide (y.2<0)) (ao y.2.natAbs) (λe3 g3 l3=>DS N 4 (λe4 g4 l4=>sZ0 N e3 e4 g3 l3 g4 l4 (λe5 g5 l5=>Gj N e2 e5 g2 l2 g5 l5 (λr=>κ r)))))
theorem XN {N:Nat} (hN:1000<=N) {x y z:Int × Int} (hx:Ex 3204 6000 x) (hy:Ex 3204 6000 y) (hz:Ex 3204 5990 z) {X Y Z:Int} {F:Nat} (vx:EV x X F) (vy:EV y Y F) (vz:EV z Z F) (κ:Int->Bool) :
  sqK N x y κ z.1 (decide (z.2<0)) (ao z.2.natAbs)=κ (oG (Z*Z - 4*(X*Y))):=by
 have h4:Ex 1 3 ((0:Int),(4:Int)):=⟨by decide,by decide,by show(4:Int).natAbs<2 ^ 3; decide⟩
 have e4:EV ((0:Int),(4:Int)) 4 0:=⟨by decide,by decide⟩
 have hxy:=hx.mul hy;have h4xy:=hxy.mul h4;have hzz:=hz.mul hz;have v4:=(vx.mul vy).mul e4;have vzz:=vz.mul vz;have vc:=vzz.add v4.neg;unfold sqK;rw[T8,d9 hN hz hz (by omega) (by omega)];unfold exK;dsimp only;rw[d9 hN hx hy (by omega) (by omega)];unfold exK;dsimp only;unfold DS JQ;rw[Ub hN];have hm:=λκ=>d9 hN (hxy.mono (E':=6408) (B':=12000) (by omega) (by omega)) (h4.mono (E':=6408) (B':=12000) (by omega) (by omega)) (by omega) (by omega) κ
 rw[show decide (((0:Int),(4:Int)).2<0)=false from rfl,show((0:Int),(4:Int)).2.natAbs=4 from rfl,N4]at hm;dsimp only at hm ⊢;rw[hm];unfold exK;dsimp only;rw[Oq hN (hzz.mono (E':=6409) (B':=12003) (by omega) (by omega)) (h4xy.mono (E':=6409) (B':=12003) (by omega) (by omega)) (by omega),vc.sgn];congr 2;rw[Int.mul_comm (X*Y) 4,Int.sub_eq_add_neg]
theorem US {z:Int} (h:0<=z):decide (oG z>=0)=true:=by
 apply decide_eq_true;unfold oG;split
 ·decide
 ·rw[if_neg (by omega)]; decide
theorem LC {z:Int} (h:z<=0):decide (oG z<=0)=true:=by apply decide_eq_true;exact ahj h
theorem ahi {z:Int} (h:0<z):decide (oG z<=0)=false:=by apply decide_eq_false;unfold oG;rw[if_neg (by omega),if_neg (by omega)]; decide
def tw1 (N:Nat) (x y:Int × Int) (k:Bool->Bool) (e:Int) (g:Bool) (l:List Int):Bool:=
 nG N g l (λnr=>cond ((decide (nr>=0))==true) (sqK N x y (λr=>k (decide (r>=0))) e g l) (k false))
def tw2 (N:Nat) (x y:Int × Int) (k:Bool->Bool) (e:Int) (g:Bool) (l:List Int):Bool:=
 nG N g l (λnr=>cond ((decide (nr<=0))==false) (sqK N x y (λr=>k (decide (r<=0))) e g l) (k true))
theorem OJ {N:Nat} (hN:1000<=N) {x y r:Int × Int} (hx:Ex 3204 6000 x) (hy:Ex 3204 6000 y) (hr:Ex 3204 6000 r) {X Y R:Int} {F:Nat} (vx:EV x X F) (vy:EV y Y F) (vr:EV r R F) (hb:dt 5990 (R - X - Y).natAbs)
  (h1:0<=R - X - Y) (h2:4*(X*Y)<=(R - X - Y)*(R - X - Y)) (k:Bool->Bool) :
  abF N x.1 y.1 r.1 (decide (x.2<0)) (ao x.2.natAbs) (decide (y.2<0)) (ao y.2.natAbs) (decide (r.2<0)) (ao r.2.natAbs) (λc=>k c)=k true:=by
 have hd1:=hr.add hx.neg;have vd1:=vr.add vx.neg;have hd2:=(hd1.mono (E':=3204) (B':=12500) (by omega) (by omega)).add (hy.neg.mono (E':=3204) (B':=12500) (by omega) (by omega));have vd2:=vd1.add vy.neg;have ev:R + -X + -Y=R - X - Y:=by omega
 rw[ev]at vd2;have hz:Ex 3204 5990 (fM (fM r (iH x)) (iH y)):=⟨hd2.1,hd2.2.1,vd2.bits hb⟩
 have e:abF N x.1 y.1 r.1 (decide (x.2<0)) (ao x.2.natAbs) (decide (y.2<0)) (ao y.2.natAbs) (decide (r.2<0)) (ao r.2.natAbs) (λc=>k c) =
   la N x.1 (decide (x.2<0)) (ao x.2.natAbs) (λcr nsr=>sZ1 N r.1 x.1 (decide (r.2<0)) (ao r.2.natAbs) cr nsr
    ((λe g l=>la N y.1 (decide (y.2<0)) (ao y.2.natAbs) (λc1 n1=>sZ1 N e y.1 g l c1 n1 (tw1 N x y k y.1 c1 n1) (tw1 N x y k e g l) (tw1 N x y k))) x.1 cr nsr)
    ((λe g l=>la N y.1 (decide (y.2<0)) (ao y.2.natAbs) (λc1 n1=>sZ1 N e y.1 g l c1 n1 (tw1 N x y k y.1 c1 n1) (tw1 N x y k e g l) (tw1 N x y k))) r.1 (decide (r.2<0)) (ao r.2.natAbs))
    (λe g l=>la N y.1 (decide (y.2<0)) (ao y.2.natAbs) (λc1 n1=>sZ1 N e y.1 g l c1 n1 (tw1 N x y k y.1 c1 n1) (tw1 N x y k e g l) (tw1 N x y k)))):=rfl
 rw[e,F9 hN hx (by omega)];have a1:=jH hN hr hx.neg (by omega) ((λe g l=>la N y.1 (decide (y.2<0)) (ao y.2.natAbs) (λc1 n1=>sZ1 N e y.1 g l c1 n1 (tw1 N x y k y.1 c1 n1) (tw1 N x y k e g l) (tw1 N x y k))) x.1 (decide ((iH x).2<0)) (ao (iH x).2.natAbs))
  ((λe g l=>la N y.1 (decide (y.2<0)) (ao y.2.natAbs) (λc1 n1=>sZ1 N e y.1 g l c1 n1 (tw1 N x y k y.1 c1 n1) (tw1 N x y k e g l) (tw1 N x y k))) r.1 (decide (r.2<0)) (ao r.2.natAbs))
  (λe g l=>la N y.1 (decide (y.2<0)) (ao y.2.natAbs) (λc1 n1=>sZ1 N e y.1 g l c1 n1 (tw1 N x y k y.1 c1 n1) (tw1 N x y k e g l) (tw1 N x y k))) rfl rfl
 refine Eq.trans a1 ?_;unfold exK;dsimp only;rw[F9 hN hy (by omega)];have a2:=jH hN (hd1.mono (E':=3204) (B':=12500) (by omega) (by omega)) (hy.neg.mono (E':=3204) (B':=12500) (by omega) (by omega)) (by omega) (tw1 N x y k y.1 (decide ((iH y).2<0)) (ao (iH y).2.natAbs)) (tw1 N x y k (fM r (iH x)).1 (decide ((fM r (iH x)).2<0)) (ao (fM r (iH x)).2.natAbs)) (tw1 N x y k) rfl rfl;refine Eq.trans a2 ?_;unfold exK tw1;rw[D8,vd2.sgn,US h1,show(true==true)=true from rfl,cond_true,XN hN hx hy hz vx vy vd2,US (by omega)]
theorem FH {N:Nat} (hN:1000<=N) {x y r:Int × Int} (hx:Ex 3204 6000 x) (hy:Ex 3204 6000 y) (hr:Ex 3204 6000 r) {X Y R:Int} {F:Nat} (vx:EV x X F) (vy:EV y Y F) (vr:EV r R F) (hb:dt 5990 (X+Y - R).natAbs)
  (h:X+Y - R<=0\/(X+Y - R)*(X+Y - R)<=4*(X*Y)) (k:Bool->Bool) :
  abE N x.1 y.1 r.1 (decide (x.2<0)) (ao x.2.natAbs) (decide (y.2<0)) (ao y.2.natAbs) (decide (r.2<0)) (ao r.2.natAbs) (λc=>k c)=k true:=by
 have hd1:=hx.add hy;have vd1:=vx.add vy;have hd2:=(hd1.mono (E':=3204) (B':=12500) (by omega) (by omega)).add (hr.neg.mono (E':=3204) (B':=12500) (by omega) (by omega));have vd2:=vd1.add vr.neg;have ev:X+Y + -R=X+Y - R:=by omega
 rw[ev]at vd2;have hz:Ex 3204 5990 (fM (fM x y) (iH r)):=⟨hd2.1,hd2.2.1,vd2.bits hb⟩
 have e:abE N x.1 y.1 r.1 (decide (x.2<0)) (ao x.2.natAbs) (decide (y.2<0)) (ao y.2.natAbs) (decide (r.2<0)) (ao r.2.natAbs) (λc=>k c) =
   sZ1 N x.1 y.1 (decide (x.2<0)) (ao x.2.natAbs) (decide (y.2<0)) (ao y.2.natAbs)
    ((λe g l=>la N r.1 (decide (r.2<0)) (ao r.2.natAbs) (λc1 n1=>sZ1 N e r.1 g l c1 n1 (tw2 N x y k r.1 c1 n1) (tw2 N x y k e g l) (tw2 N x y k))) y.1 (decide (y.2<0)) (ao y.2.natAbs))
    ((λe g l=>la N r.1 (decide (r.2<0)) (ao r.2.natAbs) (λc1 n1=>sZ1 N e r.1 g l c1 n1 (tw2 N x y k r.1 c1 n1) (tw2 N x y k e g l) (tw2 N x y k))) x.1 (decide (x.2<0)) (ao x.2.natAbs))
    (λe g l=>la N r.1 (decide (r.2<0)) (ao r.2.natAbs) (λc1 n1=>sZ1 N e r.1 g l c1 n1 (tw2 N x y k r.1 c1 n1) (tw2 N x y k e g l) (tw2 N x y k))):=rfl
 rw[e];have a1:=jH hN hx hy (by omega) ((λe g l=>la N r.1 (decide (r.2<0)) (ao r.2.natAbs) (λc1 n1=>sZ1 N e r.1 g l c1 n1 (tw2 N x y k r.1 c1 n1) (tw2 N x y k e g l) (tw2 N x y k))) y.1 (decide (y.2<0)) (ao y.2.natAbs))
  ((λe g l=>la N r.1 (decide (r.2<0)) (ao r.2.natAbs) (λc1 n1=>sZ1 N e r.1 g l c1 n1 (tw2 N x y k r.1 c1 n1) (tw2 N x y k e g l) (tw2 N x y k))) x.1 (decide (x.2<0)) (ao x.2.natAbs))
  (λe g l=>la N r.1 (decide (r.2<0)) (ao r.2.natAbs) (λc1 n1=>sZ1 N e r.1 g l c1 n1 (tw2 N x y k r.1 c1 n1) (tw2 N x y k e g l) (tw2 N x y k))) rfl rfl
 refine Eq.trans a1 ?_;unfold exK;dsimp only;rw[F9 hN hr (by omega)];have a2:=jH hN (hd1.mono (E':=3204) (B':=12500) (by omega) (by omega)) (hr.neg.mono (E':=3204) (B':=12500) (by omega) (by omega)) (by omega) (tw2 N x y k r.1 (decide ((iH r).2<0)) (ao (iH r).2.natAbs)) (tw2 N x y k (fM x y).1 (decide ((fM x y).2<0)) (ao (fM x y).2.natAbs)) (tw2 N x y k) rfl rfl;refine Eq.trans a2 ?_;unfold exK tw2;rw[D8,vd2.sgn];by_cases h0:X+Y - R<=0
 ·rw[LC h0]; rfl
 ·rw[ahi (by omega),show(false==false)=true from rfl,cond_true,XN hN hx hy hz vx vy vd2,LC (by have:=h.resolve_left h0; omega)]
@[irreducible] def k4:Nat:=400
theorem acG:k4=400:=by unfold k4; rfl
theorem aly:tG=2 ^ k4:=by unfold tG k4; rfl
theorem OR {m:Nat} {i:Int} (hm:m ≠ 0) (hi : -1074<=i) (h:((m*2 ^ (i+1074).toNat:Nat):Rat)*Ue Sp<=tG):i<=400:=by
 rcases Int.lt_or_le 400 i with c | c
 ·exfalso;have hS:=gd;have hk:=acG;have h1:2 ^ (k4+1+Sp)<=m*2 ^ (i+1074).toNat:=by have a:2 ^ (k4+1+Sp)<=2 ^ (i+1074).toNat:=Nat.pow_le_pow_right (by decide) (by omega);have b:1*2 ^ (i+1074).toNat<=m*2 ^ (i+1074).toNat:=Nat.mul_le_mul_right _ (by omega);omega
  have h2:((2 ^ (k4+1+Sp):Nat):Rat)<=((m*2 ^ (i+1074).toNat:Nat):Rat):=Rat.natCast_le_natCast.2 h1;have h3:((2 ^ (k4+1+Sp):Nat):Rat)=2 ^ k4*2*2 ^ Sp:=by
   have e3:((2:Nat):Rat)=2:=rfl;have p1:(2:Rat) ^ 1=2:=by rw[show(1:Nat)=0+1 from rfl,Rat.pow_succ,Rat.pow_zero,Rat.one_mul]
   rw[Rat.natCast_pow,e3,gK,gK,p1]
  have hu:=bH Sp;have he:=bD Sp;have hg:=uO;rw[aly]at h hg;rw[h3]at h2;generalize ((m*2 ^ (i+1074).toNat:Nat):Rat)=x at *;generalize (2:Rat) ^ k4=g at *;generalize (2:Rat) ^ Sp=p at *;have h5:=Rat.mul_nonneg (by grind:0<=x - g*2*p) (Rat.le_of_lt hu);have e:(x - g*2*p)*Ue Sp=x*Ue Sp - g*2*(p*Ue Sp):=by grind
  rw[e,he]at h5;grind
 ·exact c
theorem rJ {x:Fl} (hx:ar x=true) (ht:Tm (rv x)):Ex 464 53 (ofE x):=by
 have hB:=uD hx;obtain⟨b,s,m,i,rfl,h⟩:=aG hx;have hpl:=dn h;have hpg:=bg h;refine⟨?_,?_,hB.2.2⟩
 all_goals
  rw[wk h];by_cases h0:m=0
  ·rw[if_pos h0]; decide
  ·rw[if_neg h0];have h64:m<2 ^ 64:=by
    have e:(2:Nat) ^ 64=18446744073709551616:=by decide
    rw[e]; omega
   obtain⟨g1,g2,g3,g4⟩:=j9 64 m i h0 h64;have hp:0<((m*2 ^ (i+1074).toNat:Nat):Rat)*Ue Sp:=Rat.mul_pos (Rat.natCast_pos.2 (Nat.mul_pos (Nat.pos_of_ne_zero h0) (Nat.two_pow_pos _))) (bH _);have hb:Ue 400<=((m*2 ^ (i+1074).toNat:Nat):Rat)*Ue Sp/\((m*2 ^ (i+1074).toNat:Nat):Rat)*Ue Sp<=tG:=by
    rw[cA h,aJ]at ht;rw[<- XZ];have hS:=mu;unfold Tm at ht;generalize ((m*2 ^ (i+1074).toNat:Nat):Rat)=y at *;generalize Ue Sp=u at *;cases s
    ·rw[if_neg (by decide)]at ht; rcases ht with ht | ht | ht
     ·exact absurd ht (by grind)
     ·exact ht
     ·exact absurd ht.1 (by grind)
    ·rw[if_pos rfl]at ht;have e : -y*u = -(y*u):=Rat.neg_mul _ _;rw[e]at ht;generalize y*u=z at *;rcases ht with ht | ht | ht
     ·exact absurd ht (by grind)
     ·exact absurd ht.1 (by grind)
     ·exact⟨by grind,by grind⟩
   have hlo:=AW hpl.2 (by omega) hb.1;have hhi:=OR h0 hpg hb.2;show _<=_;dsimp only;omega
theorem N_ {a b c:Fl} (ha:Ex 464 53 (ofE a)) (hb:Ex 464 53 (ofE b)) (hc:Ex 464 53 (ofE c)) : -((928:Nat):Int)<=(q7 [a,b,c] [a,b,c] 3).1/\(q7 [a,b,c] [a,b,c] 3).1<=((928:Nat):Int):=by have ea:=ha.mul ha;have eb:=hb.mul hb;have ec:=hc.mul hc;have h1:=ob (x:=(0,0)) (y:=nh (ofE a) (ofE a)) (E:=928) (by decide) (by decide) ea.1 ea.2.1;have h2:=ob h1.1 h1.2 eb.1 eb.2.1;exact ob h2.1 h2.2 ec.1 ec.2.1
theorem Ei {sv:Int} {s:Rat} (hs:((sv:Int):Rat)*Ue (Sc+Sc)=s) (h0:0<=s) (h1:s<=28*(tG*tG)):0<=sv/\dt 2954 sv.natAbs:=by
 have hu:=bH (Sc+Sc);have n0:0<=sv:=ii hu (by rw[hs,show(((0:Int):Int):Rat)=0 from rfl,Rat.zero_mul]; exact h0)
 refine⟨n0,?_⟩;have hle:sv<=((28*(2 ^ k4*2 ^ k4)*2 ^ (Sc+Sc):Nat):Int):=ii hu (by
  rw[hs,Rat.intCast_natCast,Rat.natCast_mul,Rat.natCast_mul,Rat.natCast_mul,Rat.natCast_pow,Rat.natCast_pow];have e:=bD (Sc+Sc);rw[aly]at h1;have e2:((28:Nat):Rat)=28:=rfl;have e3:((2:Nat):Rat)=2:=rfl;rw[e2,e3];generalize (2:Rat) ^ k4=g at *;generalize (2:Rat) ^ (Sc+Sc)=p at *;have:28*(g*g)*p*Ue (Sc+Sc)=28*(g*g)*(p*Ue (Sc+Sc)):=by grind
  rw[this,e,Rat.mul_one]; exact h1)
 have hk:=acG;have hc:=QI;have hb:dt (5+(k4+k4)+(Sc+Sc)) (28*(2 ^ k4*2 ^ k4)*2 ^ (Sc+Sc)):=by unfold dt;rw[Nat.pow_add 2 (5+(k4+k4)),Nat.pow_add 2 5,Nat.pow_add 2 k4 k4];have h28:28*(2 ^ k4*2 ^ k4)<2 ^ 5*(2 ^ k4*2 ^ k4):=Nat.mul_lt_mul_of_pos_right (by decide) (Nat.mul_pos (Nat.two_pow_pos _) (Nat.two_pow_pos _));exact Nat.mul_lt_mul_of_pos_right h28 (Nat.two_pow_pos _)
 exact ia (qO hb (by omega)) (by omega)
theorem afy:Ex 76 1 ((-76:Int),(1:Int))/\EV ((-76:Int),(1:Int)) 1 76:=⟨⟨by decide,by decide,by show(1:Int).natAbs<2 ^ 1; decide⟩,⟨by decide,by decide⟩⟩
abbrev p76:Int:=75557863725914323419136
theorem acH {x:Int} {tv:Int} {a t:Rat} (hx:((x:Int):Rat)*Ue Sc=a) (ht:((tv:Int):Rat)*Ue (Sc+Sc)=t):((x*x*tv:Int):Rat)*Ue (Sc+Sc+(Sc+Sc))=a*a*t:=by subst hx ht;rw[Rat.intCast_mul,Rat.intCast_mul,cq (Sc+Sc),cq Sc];generalize ((x:Int):Rat)=p;generalize ((tv:Int):Rat)=q;generalize Ue Sc=u;grind
theorem agW {sv tv:Int} {s t:Rat} (hs:((sv:Int):Rat)*Ue (Sc+Sc)=s) (ht:((tv:Int):Rat)*Ue (Sc+Sc)=t):((sv*tv:Int):Rat)*Ue (Sc+Sc+(Sc+Sc))=s*t:=by subst hs ht;rw[Rat.intCast_mul,cq (Sc+Sc)];generalize ((sv:Int):Rat)=p;generalize ((tv:Int):Rat)=q;generalize Ue (Sc+Sc)=u;grind
theorem B1:((p76:Int):Rat)=75557863725914323419136:=rfl
theorem ak2 {R X Y:Int} {u r x y:Rat} (hR:((R:Int):Rat)*u=r) (hX:((X:Int):Rat)*u=x) (hY:((Y:Int):Rat)*u=y):((R - X*p76 - Y*p76:Int):Rat)*(rm*u)=rm*r - x - y:=by subst hR hX hY;rw[Rat.intCast_sub,Rat.intCast_sub,Rat.intCast_mul,Rat.intCast_mul,B1];generalize ((R:Int):Rat)=a;generalize ((X:Int):Rat)=b;generalize ((Y:Int):Rat)=c;grind
theorem agV {R X Y:Int} {u r x y:Rat} (hR:((R:Int):Rat)*u=r) (hX:((X:Int):Rat)*u=x) (hY:((Y:Int):Rat)*u=y):((X*p76+Y*p76 - R:Int):Rat)*(rm*u)=x+y - rm*r:=by subst hR hX hY;rw[Rat.intCast_sub,Rat.intCast_add,Rat.intCast_mul,Rat.intCast_mul,B1];generalize ((R:Int):Rat)=a;generalize ((X:Int):Rat)=b;generalize ((Y:Int):Rat)=c;grind
theorem ak3 {X Y:Int} {u x y:Rat} (hX:((X:Int):Rat)*u=x) (hY:((Y:Int):Rat)*u=y):((4*(X*p76*(Y*p76)):Int):Rat)*(rm*u*(rm*u))=4*(x*y):=by subst hX hY;rw[Rat.intCast_mul,Rat.intCast_mul,Rat.intCast_mul,Rat.intCast_mul,B1];have:((4:Int):Rat)=4:=rfl;rw[this];generalize ((X:Int):Rat)=b;generalize ((Y:Int):Rat)=c;grind
theorem Up {D:Int} {u d:Rat} (h:((D:Int):Rat)*u=d):((D*D:Int):Rat)*(u*u)=d*d:=by subst h;rw[Rat.intCast_mul];generalize ((D:Int):Rat)=b;grind
theorem ag1 {u:Rat} (hu:0<u):0<rm*u:=Rat.mul_pos (by decide +kernel) hu
theorem Zu {x y sv tv:Int} {a b s t:Rat} (hx:((x:Int):Rat)*Ue Sc=a) (hy:((y:Int):Rat)*Ue Sc=b) (hs:((sv:Int):Rat)*Ue (Sc+Sc)=s) (ht:((tv:Int):Rat)*Ue (Sc+Sc)=t) (h:oI a b s t) :
  (a*b<=0->0<=sv*tv - x*x*tv*p76 - y*y*sv*p76/\4*(x*x*tv*p76*(y*y*sv*p76))<=(sv*tv - x*x*tv*p76 - y*y*sv*p76)*(sv*tv - x*x*tv*p76 - y*y*sv*p76)) /\
  (0<=a*b->x*x*tv*p76+y*y*sv*p76 - sv*tv<=0\/(x*x*tv*p76+y*y*sv*p76 - sv*tv)*(x*x*tv*p76+y*y*sv*p76 - sv*tv)<=4*(x*x*tv*p76*(y*y*sv*p76))):=by
 have hX:=acH hx ht;have hY:=acH hy hs;have hR:=agW hs ht;have hu:=bH (Sc+Sc+(Sc+Sc));have hru:=ag1 hu;have hd:=ak2 hR hX hY;have hd2:=agV hR hX hY;have hq:=ak3 hX hY;obtain⟨h1,h2⟩:=h;constructor
 ·intro hp;obtain⟨k1,k2⟩:=h1 hp;constructor
  ·refine ii hru ?_;rw[hd,show(((0:Int):Int):Rat)=0 from rfl,Rat.zero_mul]; exact k1
  ·refine ii (Rat.mul_pos hru hru) ?_;rw[hq,Up hd]; exact k2
 ·intro hp;rcases h2 hp with k | k
  ·left;refine ii hru ?_;rw[hd2,show(((0:Int):Int):Rat)=0 from rfl,Rat.zero_mul]; exact k
  ·right;refine ii (Rat.mul_pos hru hru) ?_;rw[hq,Up hd2]; exact k
theorem T_ {sv tv X Y:Int} (s0:0<=sv) (t0:0<=tv) (bs:dt 2954 sv.natAbs) (bt:dt 2954 tv.natAbs) (x0:0<=X) (x1:X<=sv*tv) (y0:0<=Y) (y1:Y<=sv*tv):dt 5990 (sv*tv - X*p76 - Y*p76).natAbs/\dt 5990 (X*p76+Y*p76 - sv*tv).natAbs:=by
 have hst:=qQ bs bt;rw[<- Int.natAbs_mul]at hst;have hp:dt 78 151115727451828646838272:=by show 151115727451828646838272<2 ^ 78; decide
 have hall:=qQ hp hst;have h0:=Int.mul_nonneg s0 t0;generalize sv*tv=q at *;unfold p76;constructor
 ·exact ia (qO hall (by omega)) (by omega)
 ·exact ia (qO hall (by omega)) (by omega)
theorem O_ {w b:Fl} (fw:ar w=true) (fb:ar b=true):((flt w (some 0) != flt b (some 0))=true->rv w*rv b<=0)/\((flt w (some 0) != flt b (some 0))=false->0<=rv w*rv b):=by
 obtain⟨z1,z2⟩:=jv;have key:∀{x:Fl},ar x=true->flt x (some 0)=decide (rv x<0):=by intro x fx;rw[RT fx z1];have:=acK (x:=x) (y:=some 0);rw[z2]at this;exact decide_eq_decide.2 this
 rw[key fw,key fb];by_cases h1:rv w<0 <;> by_cases h2:rv b<0
 ·rw[decide_eq_true h1,decide_eq_true h2];refine⟨λh=>absurd h (by decide),λ_=>?_⟩;have:=Rat.mul_nonneg (by grind:0 <= -rv w) (by grind:0 <= -rv b);grind
 ·rw[decide_eq_true h1,decide_eq_false h2];refine⟨λ_=>?_,λh=>absurd h (by decide)⟩;have:=Rat.mul_nonneg (by grind:0 <= -rv w) (by grind:0<=rv b);grind
 ·rw[decide_eq_false h1,decide_eq_true h2];refine⟨λ_=>?_,λh=>absurd h (by decide)⟩;have:=Rat.mul_nonneg (by grind:0<=rv w) (by grind:0 <= -rv b);grind
 ·rw[decide_eq_false h1,decide_eq_false h2];refine⟨λh=>absurd h (by decide),λ_=>?_⟩;exact Rat.mul_nonneg (by grind) (by grind)
theorem E5 {N:Nat} (hN:1000<=N) {w b:Fl} (fw:ar w=true) (fb:ar b=true) (ww:FW w) (wb:FW b) (tb:Tm (rv b)) {S T:Int × Int} (hS:Ex 2200 2954 S) (hT:Ex 928 2954 T) {sv tv:Int} (vS:EV S sv (Sc+Sc)) (vT:EV T tv (Sc+Sc)) {s t:Rat} (hs:((sv:Int):Rat)*Ue (Sc+Sc)=s) (ht:((tv:Int):Rat)*Ue (Sc+Sc)=t)
  (s0:0<=sv) (t0:0<=tv) (bs:dt 2954 sv.natAbs) (bt:dt 2954 tv.natAbs) (hw:cZ w*cZ w<=sv) (hb:cZ b*cZ b<=tv) (ask:oI (rv w) (rv b) s t) (k:Bool->Bool) (X:Bool) :
  rO N w (λe1 g1 l1=>rO N w (λe2 g2 l2=>sZ0 N e1 e2 g1 l1 g2 l2 (λe3 g3 l3=>sZ0 N e3 T.1 g3 l3 (decide (T.2<0)) (ao T.2.natAbs) (λe4 g4 l4=>
   rO N b (λe5 g5 l5=>rO N b (λe6 g6 l6=>sZ0 N e5 e6 g5 l5 g6 l6 (λe7 g7 l7=>sZ0 N e7 S.1 g7 l7 (decide (S.2<0)) (ao S.2.natAbs) (λe8 g8 l8=>
    sZ0 N S.1 T.1 (decide (S.2<0)) (ao S.2.natAbs) (decide (T.2<0)) (ao T.2.natAbs) (λe9 g9 l9=>abD N e4 e8 (flt w (some 0) != flt b (some 0)) e9 g4 l4 g8 l8 g9 l9 (λc=>cond (!c) (k false) X))))))))))=X:=by
 have xw:=uD fw;have xb:=rJ fb tb;have vw:=wn fw;have vb:=wn fb;have xww:=xw.mul xw;have xbb:=xb.mul xb;have xx:=xww.mul hT;have xy:=xbb.mul hS;have xa:=hS.mul hT;have xr:=xa.mul afy.1;have vx:=(vw.mul vw).mul vT;have vy:=(vb.mul vb).mul vS;have va:=vS.mul vT;have vr:=va.mul afy.2;rw[uz hN fw ww];unfold exK;dsimp only;rw[uz hN fw ww];unfold exK;dsimp only;rw[d9 hN xw xw (by omega) (by omega)];unfold exK;dsimp only;rw[d9 hN (xww.mono (E':=2200) (B':=3000) (by omega) (by omega)) (hT.mono (E':=2200) (B':=3000) (by omega) (by omega)) (by omega) (by omega)];unfold exK;dsimp only;rw[uz hN fb wb];unfold exK;dsimp only;rw[uz hN fb wb];unfold exK;dsimp only;rw[d9 hN xb xb (by omega) (by omega)];unfold exK;dsimp only;rw[d9 hN (xbb.mono (E':=2200) (B':=3000) (by omega) (by omega)) (hS.mono (E':=2200) (B':=3000) (by omega) (by omega)) (by omega) (by omega)];unfold exK;dsimp only;rw[d9 hN (hS.mono (E':=2200) (B':=3000) (by omega) (by omega)) (hT.mono (E':=2200) (B':=3000) (by omega) (by omega)) (by omega) (by omega)];unfold exK;dsimp only;unfold abD YU Lo J5;rw[abp hN];have hm:=λκ=>d9 hN (xa.mono (E':=3204) (B':=6000) (by omega) (by omega)) (afy.1.mono (E':=3204) (B':=6000) (by omega) (by omega)) (by omega) (by omega) κ
 rw[show decide (((-76:Int),(1:Int)).2<0)=false from rfl,show((-76:Int),(1:Int)).2.natAbs=1 from rfl,RH]at hm;dsimp only at hm ⊢;rw[hm];unfold exK;dsimp only;have hX:=(xx.mono (E':=3204) (B':=6000) (by omega) (by omega))
 have hY:=(xy.mono (E':=3204) (B':=6000) (by omega) (by omega))
 have hR:=(xr.mono (E':=3204) (B':=6000) (by omega) (by omega))
 have p2:(2:Int) ^ 76=p76:=by decide
 have vx':=vx.up 76;have vy':=vy.up 76;rw[p2]at vx' vy';rw[Int.mul_one]at vr;obtain⟨q1,q2⟩:=Zu (yp fw) (yp fb) hs ht ask;have ev:cZ w*cZ w*tv<=sv*tv:=Int.mul_le_mul_of_nonneg_right hw t0;have ev2:cZ b*cZ b*sv<=sv*tv:=by rw[Int.mul_comm sv tv];exact Int.mul_le_mul_of_nonneg_right hb s0
 have sq0:∀ z:Int,0<=z*z:=λz=>by
  rcases Int.le_total 0 z with h | h
  ·exact Int.mul_nonneg h h
  ·exact Int.mul_nonneg_of_nonpos_of_nonpos h h
 obtain⟨n1,n2⟩:=T_ s0 t0 bs bt (Int.mul_nonneg (sq0 (cZ w)) t0) ev (Int.mul_nonneg (sq0 (cZ b)) s0) ev2;obtain⟨a1,a2⟩:=O_ fw fb;cases hap:(flt w (some 0) != flt b (some 0))with
 | true=>
  obtain⟨c1,c2⟩:=q1 (a1 hap);rw[cond_true,OJ hN hX hY hR vx' vy' vr n1 c1 c2]; rfl
 | false=>
  rw[cond_false,FH hN hX hY hR vx' vy' vr n2 (q2 (a2 hap))]; rfl
def c20:Fl:=some 4517110426252607488
theorem TX {N:Nat} (hN:1000<=N) (κ:Fl->Bool):pZ N (some 4607182418800017408) (-20) κ=κ c20:=by
 obtain⟨M,rfl⟩:∃ M,N=M+1000:=⟨N - 1000,by omega⟩
 kernel_rfl
theorem Zx:ar c20=true/\rv c20=1 / 1048576:=by
 have h:Ieee.double.read 4517110426252607488=.number false 4503599627370496 (-72):=by decide
 obtain⟨a,b⟩:=Gg h (n:=20) (by decide);refine⟨a,b.trans ?_⟩;have:=bD 20;rw[show(2:Rat) ^ 20=1048576 by decide +kernel]at this;grind
theorem DB {a b c:Fl} (fa:ar a=true) (fb:ar b=true) (fc:ar c=true) (h:(feq a (some 0)&&(feq b (some 0)&&feq c (some 0)))=false):rv a ≠ 0\/rv b ≠ 0\/rv c ≠ 0:=by
 obtain⟨z1,z2⟩:=jv;by_cases ha:rv a=0
 ·by_cases hb:rv b=0
  ·refine .inr (.inr λhc=>?_);rw[(pB fa z1).2 (by rw[ha,z2]),(pB fb z1).2 (by rw[hb,z2]),(pB fc z1).2 (by rw[hc,z2])]at h;cases h
  ·exact .inr (.inl hb)
 ·exact .inl ha
theorem vm {N:Nat} (hN:1000<=N) {a b c:Fl} (h:FinL [a,b,c] 3) (k:Int->Bool->List Int->Bool):abH N a b c k=exK (q7 [a,b,c] [a,b,c] 3) k:=by unfold abH Y2;rw[TS hN rfl (Nat.le_of_ble_eq_true rfl) h h];rfl
theorem ZF (a b c:Fl):f7 [a,b,c] [a,b,c] 3=cZ a*cZ a+cZ b*cZ b+cZ c*cZ c:=by show 0+cZ a*cZ a+cZ b*cZ b+cZ c*cZ c=_;rw[Int.zero_add]
theorem Ik (z:Int):0<=z*z:=by
 rcases Int.le_total 0 z with h | h
 ·exact Int.mul_nonneg h h
 ·exact Int.mul_nonneg_of_nonpos_of_nonpos h h
theorem Eg (a b c:Fl):cZ a*cZ a<=f7 [a,b,c] [a,b,c] 3/\cZ b*cZ b<=f7 [a,b,c] [a,b,c] 3/\cZ c*cZ c<=f7 [a,b,c] [a,b,c] 3:=by rw[ZF];have h1:=Ik (cZ a);have h2:=Ik (cZ b);have h3:=Ik (cZ c);generalize cZ a*cZ a=x at *;generalize cZ b*cZ b=y at *;generalize cZ c*cZ c=z at *;omega
theorem alw {a b c M G:Rat} (hM:M<=G) (hG:0<G) (ha:Bd a (304 / 100*M)) (hb:Bd b (304 / 100*M)) (hc:Bd c (304 / 100*M)):0<=a*a+b*b+c*c/\a*a+b*b+c*c<=28*(G*G):=by
 have h1:=(ha.mono (by grind:304 / 100*M<=304 / 100*G)).sq;have h2:=(hb.mono (by grind:304 / 100*M<=304 / 100*G)).sq;have h3:=(hc.mono (by grind:304 / 100*M<=304 / 100*G)).sq;have z1:=ak a;have z2:=ak b;have z3:=ak c;have e:304 / 100*G*(304 / 100*G)=92416 / 10000*(G*G):=by grind
 have hGG:=Rat.mul_pos hG hG;rw[e]at h1 h2 h3;generalize G*G=g at *;generalize a*a=x at *;generalize b*b=y at *;generalize c*c=z at *;exact⟨by grind,by grind⟩
theorem Tm.bdG {a:Rat} (h:Tm a):Bd a (304 / 100*tG):=by
 have hG:=uO;have hS:=mu;rcases h with h | h | h
 ·rw[h]; exact⟨by grind,by grind⟩
 ·exact⟨by grind,by grind⟩
 ·exact⟨by grind,by grind⟩
theorem uA {N:Nat} (hN:1000<=N) {u0 u1 u2 v0 v1 v2:Int} (g0:u0.toNat<18446744073709551616) (g1:u1.toNat<18446744073709551616) (g2:u2.toNat<18446744073709551616) (h0:v0.toNat<18446744073709551616) (h1:v1.toNat<18446744073709551616) (h2:v2.toNat<18446744073709551616) (k:Bool->Bool) :
  aha N u0 u1 u2 v0 v1 v2 k=k true:=by
 have hu:∀(x y z:Int) (k:Fl->Fl->Fl->Bool),ag9 N x y z k=k (cP x.toNat) (cP y.toNat) (cP z.toNat):=λ_ _ _ _=>rfl
 have wa0:=jW g0;have wa1:=jW g1;have wa2:=jW g2;have wb0:=jW h0;have wb1:=jW h1;have wb2:=jW h2;unfold aha Y6;rw[OB hN,Bool.not_true,cond_false,hu,hu,Dt hN];generalize cP u0.toNat=a0 at *;generalize cP u1.toNat=a1 at *;generalize cP u2.toNat=a2 at *;generalize cP v0.toNat=b0 at *;generalize cP v1.toNat=b1 at *;generalize cP v2.toNat=b2 at *;cases ta:(mJ a0&&(mJ a1&&mJ a2))with
 | false=>rfl
 | true=>
  rw[show((!true)==false)=true from rfl,cond_true,Dt hN];cases tb:(mJ b0&&(mJ b1&&mJ b2))with
  | false=>rfl
  | true=>
   rw[show((!true)==false)=true from rfl,cond_true];simp only[Bool.and_eq_true]at ta tb;obtain⟨fa0,ma0⟩:=ox wa0 ta.1;obtain⟨fa1,ma1⟩:=ox wa1 ta.2.1;obtain⟨fa2,ma2⟩:=ox wa2 ta.2.2;obtain⟨fb0,mb0⟩:=ox wb0 tb.1;obtain⟨fb1,mb1⟩:=ox wb1 tb.2.1;obtain⟨fb2,mb2⟩:=ox wb2 tb.2.2;cases za:(feq a0 (some 0)&&(feq a1 (some 0)&&feq a2 (some 0)))with
   | true=>rfl
   | false=>
    rw[show(false==false)=true from rfl,cond_true];cases zb:(feq b0 (some 0)&&(feq b1 (some 0)&&feq b2 (some 0)))with
    | true=>rfl
    | false=>
     rw[cond_false];have hall:=kP fa0 fa1 fa2;have hbll:=kP fb0 fb1 fb2;obtain⟨g,hA,gf⟩:=vC hN fa0 fa1 fa2 wa0 wa1 wa2 ma0 ma1 ma2 (DB fa0 fa1 fa2 za);obtain⟨h,hB,hf⟩:=vC hN fb0 fb1 fb2 wb0 wb1 wb2 mb0 mb1 mb2 (DB fb0 fb1 fb2 zb);obtain⟨rx,ry,rz,rw',rn,hr⟩:=DM hN hall hbll za zb wa0 wa1 wa2 wb0 wb1 wb2 gf hf;rw[hr,TX hN];cases ht:flt (ai (some 4607182418800017408) (mM (fdiv a0 g) (fdiv a1 g) (fdiv a2 g) (fdiv b0 h) (fdiv b1 h) (fdiv b2 h))) c20 with
     | true=>rfl
     | false=>
      rw[cond_false];have hW:ar (Wq (fdiv a0 g) (fdiv a1 g) (fdiv a2 g) (fdiv b0 h) (fdiv b1 h) (fdiv b2 h))=true->1 / 1048576<=rv (Wq (fdiv a0 g) (fdiv a1 g) (fdiv a2 g) (fdiv b0 h) (fdiv b1 h) (fdiv b2 h)):=by intro fW;obtain⟨c1,c2⟩:=Zx;have ht':flt (Wq (fdiv a0 g) (fdiv a1 g) (fdiv a2 g) (fdiv b0 h) (fdiv b1 h) (fdiv b2 h)) c20=false:=ht;rw[RT fW c1]at ht';have h3:=of_decide_eq_false ht';rw[acK,c2]at h3;grind
      obtain⟨hz,w,x,y,z,hU,hT,⟨f0,f1,f2⟩,⟨M,hM,bM0,bM1,bM2⟩,q0,q1,q2⟩:=yY hN fa0 fa1 fa2 ma0 ma1 ma2 hA hB hW;rw[Bs hN hall hbll za zb gf hf hz,hU,hT];have wt0:FW (t0 w x y z a0 a1 a2):=qp _ _;have wt1:FW (t1 w x y z a0 a1 a2):=qp _ _;have wt2:FW (t2 w x y z a0 a1 a2):=qp _ _;generalize t0 w x y z a0 a1 a2=w0 at *;generalize t1 w x y z a0 a1 a2=w1 at *;generalize t2 w x y z a0 a1 a2=w2 at *;rw[show(((0:Int) != 0)==false)=true from rfl,cond_true,show((0:Int) != 0)=false from rfl,cond_false];have Lw:=aci f0 f1 f2 wt0 wt1 wt2;have Lb:=aci fb0 fb1 fb2 wb0 wb1 wb2;have hs:=Kz Lw;have ht2:=Kz Lb;have vS:=we 3 Lw Lw;have vT:=we 3 Lb Lb;obtain⟨sl0,sl1⟩:=alw hM uO bM0 bM1 bM2;obtain⟨tl0,tl1⟩:=alw Rat.le_refl uO mb0.bdG mb1.bdG mb2.bdG;obtain⟨sv0,sb⟩:=Ei hs sl0 sl1;obtain⟨tv0,tb⟩:=Ei ht2 tl0 tl1;have eS:=wT 3 Lw Lw;have eT:=N_ (rJ fb0 mb0) (rJ fb1 mb1) (rJ fb2 mb2);have hS:Ex 2200 2954 (q7 [w0,w1,w2] [w0,w1,w2] 3):=⟨eS.1,eS.2,vS.bits sb⟩
      have hTT:Ex 928 2954 (q7 [b0,b1,b2] [b0,b1,b2] 3):=⟨eT.1,eT.2,vT.bits tb⟩
      obtain⟨pw0,pw1,pw2⟩:=Eg w0 w1 w2;obtain⟨pb0,pb1,pb2⟩:=Eg b0 b1 b2;have es:(p3 w0 w1 w2).dot (p3 w0 w1 w2)=rv w0*rv w0+rv w1*rv w1+rv w2*rv w2:=rfl;have et:(p3 b0 b1 b2).dot (p3 b0 b1 b2)=rv b0*rv b0+rv b1*rv b1+rv b2*rv b2:=rfl;rw[es,et]at q0 q1 q2;rw[vm hN Lw];unfold exK;dsimp only;rw[vm hN Lb];unfold exK;dsimp only;refine Eq.trans (E5 hN f0 fb0 wt0 wb0 mb0 hS hTT vS vT hs ht2 sv0 tv0 sb tb pw0 pb0 q0 k _) ?_;refine Eq.trans (E5 hN f1 fb1 wt1 wb1 mb1 hS hTT vS vT hs ht2 sv0 tv0 sb tb pw1 pb1 q1 k _) ?_;exact E5 hN f2 fb2 wt2 wb2 mb2 hS hTT vS vT hs ht2 sv0 tv0 sb tb pw2 pb2 q2 k _
end Go.Proofs.YtadejnnigmcpdaaGreatDoor
end
