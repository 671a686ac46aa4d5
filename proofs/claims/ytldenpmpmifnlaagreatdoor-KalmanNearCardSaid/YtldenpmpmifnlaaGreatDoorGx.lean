/-
  The program's functions without a body, and those that aq at bits, tied to their meanings.
  Conditions: none.
-/
import Derived.Test.YtldenpmpmifnlaaGreatDoorGs
import Derived.Test.YtldenpmpmifnlaaGreatDoorMachT
import Derived.Test.YtldenpmpmifnlaaGreatDoorC8
import Derived.Test.YtldenpmpmifnlaaGreatDoorGt0
import Derived.Test.YtldenpmpmifnlaaGreatDoorGt3
import Derived.Test.YtldenpmpmifnlaaGreatDoorGt6
set_option linter.unusedVariables false
section
namespace Go.Proofs.YtldenpmpmifnlaaGreatDoor
open Go Go.Mach Go.Proofs
set_option maxRecDepth 20000
theorem Vk (N:Nat):ab Pg 19 (DF (Fq N)):=
 tC (Ib (fn:=Tryz.f19) (by kernel_rfl) (by kernel_rfl) (by kernel_rfl) (by kernel_rfl) (by kernel_rfl)) λa k h=>by
  unfold Ys at h; split at h
  ·exact h
  ·cases h
theorem PQ (N:Nat):ab Pg 19 (zO (yH N)):=
 tC (Se (fn:=Tryz.f19) (by kernel_rfl) (by kernel_rfl) (by kernel_rfl) (by kernel_rfl) (by kernel_rfl)) λa k h=>by
  unfold Yt yH at h; split at h
  ·split at h
   ·exact h
   ·cases h
  ·cases h
theorem Kg (N:Nat):ab Pg 16 (vR (Fp N)):=
 tC (F8 (fn:=Tryz.f16) (by kernel_rfl) (by kernel_rfl) (by kernel_rfl) (by kernel_rfl) (by kernel_rfl)) λa k h=>by
  unfold Yq at h; split at h
  ·exact h
  ·cases h
theorem gQ5 (N:Nat):ab Pg 142 (FQ5 (sQ5 N)):=
 tC (Mr (fn:=Tryz.f142) (by kernel_rfl) (by kernel_rfl) (by kernel_rfl) (by kernel_rfl) (by kernel_rfl)) λa k h=>by
  unfold ajI at h; split at h
  ·exact h
  ·cases h
theorem gQ9 (N:Nat):ab Pg 151 (FQ9 (sQ9 N)):=
 tC (Mv (fn:=Tryz.f151) (by kernel_rfl) (by kernel_rfl) (by kernel_rfl) (by kernel_rfl) (by kernel_rfl)) λa k h=>by
  unfold ajJ at h; split at h
  ·exact h
  ·cases h
theorem ajO (N:Nat) (h:ab Pg 60 (OW (HH N))):ab Pg 60 (OM (K2 N)):=by
 have q:∀ b,JD (cn (some b))=JD (some b):=by intro b; by_cases hb:isNaN b=true <;> simp[cn,JD,cls,hb]
 refine EJ (NZ (K2 N)) (λx=>.int .i64 (JD x)) h rfl (λa k hk=>?_) (λb k=>?_) (λb=>by rw[q])
 ·unfold NZ at hk; split at hk
  ·exact⟨_,rfl,hk⟩
  ·cases hk
 ·have e:OW (HH N) [.val (.float .f64 b)] [] k=HH N b (λr0=>k (.int .i64 r0) []):=by kernel_rfl
  rw[e,Sm,q]; rfl
theorem ajN (N:Nat) (h:ab Pg 61 (OX (HI N))):ab Pg 61 (OJ (K0 N)):=by
 have q:∀ x,cn (cn x)=cn x:=by
  intro x;cases x with
  | none=>rfl
  | some b=>by_cases hb:isNaN b=true <;> simp[cn,hb]
 refine Mt (NW (K0 N)) (λx y=>.bool (decide (cn x=cn y))) h rfl (λa k hk=>?_) (λb c k=>?_) (λx y=>by simp only[q])
 ·unfold NW at hk; split at hk
  ·exact⟨_,_,rfl,hk⟩
  ·cases hk
 ·have e:OX (HI N) [.val (.float .f64 b),.val (.float .f64 c)] [] k=HI N b c (λr0=>k (.bool r0) []):=by kernel_rfl
  rw[e,Wc]; simp only[q]
theorem aeG (N:Nat) (h:ab Pg 6 (O3 (HJ N))):ab Pg 6 (sm (sF N)):=by
 have q:∀ b,oJ (cn (some b))=oJ (some b):=by
  intro b;by_cases hb:isNaN b=true
  ·have hb':=(jP b).1 hb;have:isNaN (b%9223372036854775808)=true:=(jP _).2 (by omega);simp[cn,oJ,ir,hb,this]
  ·simp[cn,hb]
 refine EJ (FG (sF N)) (λx=>.flt (oJ x)) h rfl (λa k hk=>?_) (λb k=>?_) (λb=>by rw[q])
 ·unfold FG at hk; split at hk
  ·exact⟨_,rfl,hk⟩
  ·cases hk
 ·have e:O3 (HJ N) [.val (.float .f64 b)] [] k=HJ N b (λr0=>k (.flt r0) []):=by kernel_rfl
  rw[e,adF,q]
end Go.Proofs.YtldenpmpmifnlaaGreatDoor
end
section
namespace Go.Proofs.YtldenpmpmifnlaaGreatDoor
open Go Go.Mach Go.Proofs
theorem H8 (N:Nat):ab Pg 74 (sk (xQ N)):=Ms N
theorem aeP (N:Nat):ab Pg 87 (Gs (Qr N)):=VO N
theorem ajo (N:Nat):ab Pg 89 (RF (aes N)):=adr N
theorem akX (N:Nat):ab Pg 81 (aaA (aer N)):=adq N _ _ (aeP N) (ajo N)
theorem af8 (N:Nat):ab Pg 88 (I7 (IE N)):=ada N
theorem ai8 (N:Nat):ab Pg 82 (O1 (Qz N)):=VZ N _ _ (ajo N) (af8 N)
theorem ajj (N:Nat):ab Pg 75 (RA (WZ N)):=acO N _ _ (akX N) (ai8 N)
theorem ajf (N:Nat):ab Pg 80 (Rx (K8 N)):=acs N _ _ _ (ajj N) (aeP N) (af8 N)
theorem aje (N:Nat):ab Pg 73 (Rw (K7 N)):=acr N _ (ajf N)
theorem ai3 (N:Nat):ab Pg 60 (OW (HH N)):=VU N _ _ _ (Vk N) (H8 N) (aje N)
theorem ai4 (N:Nat):ab Pg 61 (OX (HI N)):=VV N _ _ _ (Vk N) (H8 N) (ajj N)
theorem aja (N:Nat):ab Pg 6 (O3 (HJ N)):=V3 N _ _ (Vk N) (Kg N)
theorem akH (N:Nat):ab Pg 4 (aak (agO N)):=ac3 N _ (Kg N)
theorem Ia (N:Nat):ab Pg 6 (sm (sF N)):=aeG N (aja N)
theorem ab1 (N:Nat):ab Pg 33 (F0 (Lg N)):=adv N _ (Ia N)
theorem aiX (N:Nat):ab Pg 34 (OP (WQ N)):=VN N
theorem akV (N:Nat):ab Pg 35 (aay (W7 N)):=ado N _ (Ia N)
theorem aiE (N:Nat):ab Pg 36 (Ov (Qj N)):=Vv N _ _ (PQ N) (Kg N)
theorem ab2 (N:Nat):ab Pg 37 (Dr (xR N)):=Mu N _ (Kg N)
theorem ai5 (N:Nat):ab Pg 18 (OY (Qw N)):=VW N _ _ _ _ _ _ _ (ab1 N) (aiX N) (akV N) (PQ N) (aiE N) (ab2 N) (Kg N)
theorem ai1 (N:Nat):ab Pg 5 (OU (HG N)):=VS N _ (ai5 N)
theorem aiJ (N:Nat):ab Pg 59 (OA (Ql N)):=VA N
theorem aiU (N:Nat):ab Pg 60 (OM (K2 N)):=ajO N (ai3 N)
theorem abY (N:Nat):ab Pg 39 (FX (K9 N)):=acx N _ (aiU N)
theorem af5 (N:Nat):ab Pg 38 (I4 (Tg N)):=acd N _ _ (aiJ N) (abY N)
theorem akW (N:Nat):ab Pg 62 (aaz (aeq N)):=adp N
theorem aiR (N:Nat):ab Pg 61 (OJ (K0 N)):=ajN N (ai4 N)
theorem akI (N:Nat):ab Pg 40 (aal (ael N)):=ac4 N _ _ _ (af5 N) (akW N) (aiR N)
theorem kP (N:Nat):ab Pg 83 (cH (cM N)):=ws N
theorem aka (N:Nat):ab Pg 120 (ZV (Nk N)):=acf N
theorem akJ (N:Nat):ab Pg 104 (aam (aem N)):=ac6 N _ _ _ _ (ajf N) (aje N) (af8 N) (aka N)
theorem aiO (N:Nat):ab Pg 90 (OG (CW N)):=VG N _ _ _ (PQ N) (H8 N) (akJ N)
theorem gQ2 (N:Nat):ab Pg 121 (FQ2 (sQ2 N)):=aga N
theorem abW (N:Nat):ab Pg 106 (FU (Ce N)):=ack N _ (gQ2 N)
theorem Vl (N:Nat):ab Pg 105 (C0 (IB N)):=ab5 N
theorem akc (N:Nat):ab Pg 91 (ZX (K6 N)):=acj N _ _ (abW N) (Vl N)
theorem Mq (N:Nat):ab Pg 107 (xV (Dk N)):=ab8 N
theorem af7 (N:Nat):ab Pg 105 (I6 (WU N)):=acw N
theorem akn (N:Nat):ab Pg 92 (Z6 (Ld N)):=acG N _ _ (Mq N) (af7 N)
theorem aky (N:Nat):ab Pg 109 (aad (agJ N)):=acU N _ _ (abW N) (Vl N)
theorem ajl (N:Nat):ab Pg 94 (RC (Lf N)):=adh N _ (aky N)
theorem aiY (N:Nat):ab Pg 108 (OQ (Qs N)):=VP N _ (gQ2 N)
theorem akj (N:Nat):ab Pg 93 (Z3 (Nm N)):=acA N _ _ (aiY N) (Vl N)
theorem gQ6 (N:Nat):ab Pg 123 (FQ6 (sQ6 N)):=agd N
theorem ajk (N:Nat):ab Pg 145 (RB (W3 N)):=ac9 N
theorem aks (N:Nat):ab Pg 132 (Z9 (Gi N)):=acN N _ (ajk N)
theorem abZ (N:Nat):ab Pg 146 (FY (Np N)):=acL N
theorem akZ (N:Nat):ab Pg 134 (aaC (Gk N)):=adu N _ (abZ N)
theorem akA (N:Nat):ab Pg 133 (aae (ID N)):=acW N
theorem af6 (N:Nat):ab Pg 141 (I5 (Fu N)):=acn N
theorem abU (N:Nat):ab Pg 125 (FR (Nh N)):=ab9 N _ _ (af6 N) (gQ5 N)
theorem aiW (N:Nat):ab Pg 148 (OO (Qq N)):=VM N _ _ (abU N) (gQ2 N)
theorem aeO (N:Nat):ab Pg 147 (Gr (KY N)):=VE N _ _ _ (abZ N) (gQ9 N) (gQ2 N)
theorem wn (N:Nat):ab Pg 135 (iS (bt N)):=tD N _ _ (aiW N) (aeO N)
theorem gQ3 (N:Nat):ab Pg 138 (FQ3 (sQ3 N)):=agb N _ (ajk N)
theorem af4 (N:Nat):ab Pg 149 (I3 (Ft N)):=ab_ N _ (gQ3 N)
theorem akL (N:Nat):ab Pg 137 (aao (W2 N)):=ac8 N _ _ (af4 N) (gQ2 N)
theorem ake (N:Nat):ab Pg 108 (ZZ (aeb N)):=aco N _ (gQ2 N)
theorem akr (N:Nat):ab Pg 150 (Z8 (ajz N)):=acM N _ _ _ (af4 N) (af6 N) (gQ5 N)
theorem akt (N:Nat):ab Pg 139 (Z_ (ajA N)):=acP N _ _ _ _ (akr N) (abU N) (gQ9 N) (gQ5 N)
theorem akg (N:Nat):ab Pg 150 (Z1 (WS N)):=acq N _ _ _ (af4 N) (af6 N) (gQ5 N)
theorem aki (N:Nat):ab Pg 139 (Z2 (aec N)):=acz N _ _ _ _ (akg N) (abU N) (gQ9 N) (gQ5 N)
theorem akv (N:Nat):ab Pg 121 (aaa (aeg N)):=acR N
theorem akF (N:Nat):ab Pg 146 (aai (aek N)):=ac1 N
theorem akp (N:Nat):ab Pg 140 (Z7 (WY N)):=acI N _ _ (akF N) (gQ2 N)
theorem gQ8 (N:Nat):ab Pg 124 (FQ8 (sQ8 N)):=agf N _ _ _ _ _ _ _ _ _ _ _ (gQ6 N) (Mq N) (akL N) (abW N) (gQ3 N) (ake N) (akt N) (aki N) (akv N) (akp N) (gQ2 N)
theorem akY (N:Nat):ab Pg 136 (aaB (Gj N)):=adt N _ (abZ N)
theorem abX (N:Nat):ab Pg 122 (FV (IC N)):=acv N _ _ _ _ _ _ _ _ (gQ6 N) (aks N) (akZ N) (akA N) (wn N) (gQ8 N) (akY N) (abW N)
theorem af3 (N:Nat):ab Pg 105 (I2 (K3 N)):=ab6 N
theorem ajd (N:Nat):ab Pg 105 (Rv (Ti N)):=acm N
theorem akC (N:Nat):ab Pg 110 (aag (aei N)):=acY N _ _ _ _ _ _ (abX N) (gQ6 N) (gQ8 N) (Mq N) (af3 N) (ajd N)
theorem gQ7 (N:Nat):ab Pg 95 (FQ7 (sQ7 N)):=age N _ (akC N)
theorem ab0 (N:Nat):ab Pg 112 (FZ (Le N)):=ac5 N _ _ (abU N) (gQ2 N)
theorem akf (N:Nat):ab Pg 97 (Z0 (Tj N)):=acp N _ _ (ab0 N) (af7 N)
theorem akB (N:Nat):ab Pg 105 (aaf (agL N)):=acX N
theorem akG (N:Nat):ab Pg 111 (aaj (agN N)):=ac2 N _ _ (af3 N) (akB N)
theorem akb (N:Nat):ab Pg 96 (ZW (Nl N)):=acg N _ _ (Mq N) (akG N)
theorem zd (N:Nat):ab Pg 84 (j5 (kh N)):=vu N _ _ _ _ _ _ _ _ _ (aiO N) (kP N) (akc N) (akn N) (ajl N) (akj N) (gQ7 N) (akf N) (akb N)
theorem xY (N:Nat):ab Pg 78 (jq (jz N)):=uw N _ _ _ (af5 N) (kP N) (zd N)
theorem jN (N:Nat):ab Pg 98 (bO (bv N)):=rj N
theorem Vm (N:Nat):ab Pg 131 (C1 (K5 N)):=ach N
theorem abV (N:Nat):ab Pg 111 (FT (Nj N)):=acb N _ _ (af3 N) (ajd N)
theorem akO (N:Nat):ab Pg 127 (aar (aen N)):=adc N _ _ _ (Mq N) (Vm N) (abV N)
theorem akE (N:Nat):ab Pg 131 (aah (aej N)):=ac0 N
theorem Vj (N:Nat):ab Pg 143 (Co (Fo N)):=Vr N _ (gQ8 N)
theorem ai7 (N:Nat):ab Pg 152 (O0 (Qy N)):=VY N _ _ _ (abZ N) (gQ5 N) (gQ2 N)
theorem ajh (N:Nat):ab Pg 144 (Rz (WW N)):=acD N _ _ _ _ (ai7 N) (af7 N) (gQ6 N) (aeO N)
theorem akw (N:Nat):ab Pg 126 (aab (aeh N)):=acS N _ _ _ _ _ _ _ _ _ (Vm N) (akE N) (abX N) (Vj N) (ab0 N) (Vl N) (ajh N) (Mq N) (abV N)
theorem akU (N:Nat):ab Pg 113 (aax (agS N)):=adl N _ _ (akO N) (akw N)
theorem mE (N:Nat):ab Pg 99 (dn (bD N)):=qy N _ (akU N)
theorem aiG (N:Nat):ab Pg 128 (Ox (WL N)):=Vx N
theorem aiH (N:Nat):ab Pg 114 (Oy (WM N)):=Vy N _ (aiG N)
theorem mF (N:Nat):ab Pg 100 (dp (bE N)):=qB N _ (aiH N)
theorem px (N:Nat):ab Pg 85 (dO (dT N)):=nI N _ _ _ _ (jN N) (mE N) (mF N) (kP N)
theorem aiP (N:Nat):ab Pg 118 (OH (WP N)):=VH N _ _ (ajl N) (gQ7 N)
theorem BN (N:Nat):ab Pg 102 (lN (fQ N)):=x_ N _ (aiP N)
theorem ajg (N:Nat):ab Pg 130 (Ry (WT N)):=acu N _ _ _ _ (abX N) (Vj N) (ab0 N) (abV N)
theorem akT (N:Nat):ab Pg 119 (aaw (agR N)):=adk N _ _ (Vm N) (ajg N)
theorem sN (N:Nat):ab Pg 103 (fW (cl N)):=qz N _ (akT N)
theorem akS (N:Nat):ab Pg 129 (aav (agQ N)):=adi N _ _ (Vm N) (ajg N)
theorem sa (N:Nat):ab Pg 117 (fB (fH N)):=pR N _ (akS N)
theorem akM (N:Nat):ab Pg 126 (aap (W4 N)):=ac_ N _ _ _ _ _ _ _ _ (Vm N) (abX N) (Vj N) (ab0 N) (Vl N) (ajh N) (Mq N) (abV N)
theorem sO (N:Nat):ab Pg 116 (fX (gp N)):=qA N _ (akM N)
theorem tA (N:Nat):ab Pg 115 (gK (gW N)):=rk N
theorem tz (N:Nat):ab Pg 101 (gJ (cG N)):=ri N _ _ _ _ (jN N) (sa N) (sO N) (tA N)
theorem pQ (N:Nat):ab Pg 86 (ek (g_ N)):=ow N _ _ _ _ _ _ (jN N) (mF N) (BN N) (sN N) (mE N) (tz N)
theorem sM (N:Nat):ab Pg 79 (fV (gl N)):=qx N _ _ _ (kP N) (px N) (pQ N)
theorem zc (N:Nat):ab Pg 63 (j4 (kg N)):=vt N _ _ (xY N) (sM N)
theorem sx (N:Nat):ab Pg 41 (gI (gV N)):=wo N _ (zc N)
theorem wl (N:Nat):ab Pg 20 (jH (jR N)):=Al N _ _ _ _ (af5 N) (abY N) (akI N) (sx N)
theorem F7 (N:Nat):ab Pg 66 (o_ (mT N)):=BO N _ (abY N)
theorem H_ (N:Nat):ab Pg 56 (qo (qK N)):=C_ N
theorem aji (N:Nat):ab Pg 49 (LB (agI N)):=acK N _ (ab1 N)
theorem akz (N:Nat):ab Pg 50 (TL (ajC N)):=acV N _ (aji N)
theorem aku (N:Nat):ab Pg 55 (TK (ajB N)):=acQ N _ _ (akz N) (aji N)
theorem gQ4 (N:Nat):ab Pg 49 (FQ4 (sQ4 N)):=agc N _ (ab1 N)
theorem ajb (N:Nat):ab Pg 50 (Rt (Ni N)):=aca N _ (gQ4 N)
theorem akm (N:Nat):ab Pg 55 (TH (WX N)):=acF N _ _ (ajb N) (gQ4 N)
theorem akh (N:Nat):ab Pg 55 (TG (WV N)):=acy N _ _ (ajb N) (gQ4 N)
theorem akq (N:Nat):ab Pg 67 (TJ (ajy N)):=acJ N
theorem BM (N:Nat):ab Pg 48 (lM (l_ N)):=xZ N _ _ _ _ _ _ _ _ (wl N) (F7 N) (H_ N) (aku N) (akm N) (akh N) (gQ4 N) (akq N)
theorem gQ1 (N:Nat):ab Pg 49 (FQ1 (sQ1 N)):=af_ N _ (ab1 N)
theorem gQ0 (N:Nat):ab Pg 50 (FQ0 (sQ0 N)):=af9 N _ (gQ1 N)
theorem qv (N:Nat):ab Pg 28 (eK (im N)):=oS N
theorem wm (N:Nat):ab Pg 56 (jI (nY N)):=Am N
theorem H9 (N:Nat):ab Pg 68 (qn (qJ N)):=C9 N
theorem aj9 (N:Nat):ab Pg 55 (TF (ad9 N)):=ab3 N _ _ (gQ0 N) (gQ1 N)
theorem pP (N:Nat):ab Pg 52 (eh (dh N)):=ov N _ _ _ (wm N) (H9 N) (aj9 N)
theorem ako (N:Nat):ab Pg 55 (TI (aef N)):=acH N _ _ (gQ0 N) (gQ1 N)
theorem j9 (N:Nat):ab Pg 54 (bB (ba N)):=jo N _ _ _ _ (wm N) (ako N) (gQ0 N) (gQ1 N)
theorem nG (N:Nat):ab Pg 53 (dx (ca N)):=mG N _ (j9 N)
theorem oR (N:Nat):ab Pg 29 (dG (dK N)):=np N _ _ _ _ (gQ0 N) (gQ1 N) (pP N) (nG N)
theorem akD (N:Nat):ab Pg 67 (TM (agM N)):=acZ N
theorem pw (N:Nat):ab Pg 51 (dN (gB N)):=nH N _ _ (akD N) (sx N)
theorem Ak (N:Nat):ab Pg 27 (kL (nZ N)):=wr N _ _ _ _ _ _ _ _ (BM N) (abY N) (gQ4 N) (gQ0 N) (gQ1 N) (qv N) (oR N) (pw N)
theorem u9 (N:Nat):ab Pg 12 (iR (kz N)):=ze N _ (Ak N)
theorem akl (N:Nat):ab Pg 7 (Z5 (aee N)):=acC N _ _ (u9 N) (wl N)
theorem ai2 (N:Nat):ab Pg 64 (OV (Qv N)):=VT N _ (PQ N)
theorem aiL (N:Nat):ab Pg 42 (OC (KX N)):=VC N _ (ai2 N)
theorem aiV (N:Nat):ab Pg 43 (ON (Fr N)):=VL N
theorem aiS (N:Nat):ab Pg 21 (OK (Qo N)):=VJ N _ _ (aiL N) (aiV N)
theorem Mp (N:Nat):ab Pg 65 (xU (Cd N)):=ab4 N
theorem ajp (N:Nat):ab Pg 45 (RG (W8 N)):=ads N _ (Mp N)
theorem ai6 (N:Nat):ab Pg 65 (OZ (Qx N)):=VX N
theorem Vn (N:Nat):ab Pg 44 (C2 (Lc N)):=acE N _ (ai6 N)
theorem akN (N:Nat):ab Pg 22 (aaq (W5 N)):=adb N _ _ (ajp N) (Vn N)
theorem aiI (N:Nat):ab Pg 44 (Oz (WN N)):=Vz N _ (Mp N)
theorem aiF (N:Nat):ab Pg 23 (Ow (Qk N)):=Vw N _ (aiI N)
theorem ai_ (N:Nat):ab Pg 8 (O2 (QA N)):=V0 N _ _ _ (aiS N) (akN N) (aiF N)
theorem aiQ (N:Nat):ab Pg 46 (OI (Qn N)):=VI N _ (Mp N)
theorem akP (N:Nat):ab Pg 24 (aas (aeo N)):=ade N _ _ (aiQ N) (Vn N)
theorem aj_ (N:Nat):ab Pg 9 (ZU (ad_ N)):=ace N _ (akP N)
theorem akR (N:Nat):ab Pg 47 (aau (agP N)):=adg N _ _ (ajp N) (Vn N)
theorem aiN (N:Nat):ab Pg 26 (OE (KZ N)):=VF N _ (akR N)
theorem aiM (N:Nat):ab Pg 11 (OD (WO N)):=VD N _ (aiN N)
theorem ajm (N:Nat):ab Pg 44 (RD (W6 N)):=adm N _ (Mp N)
theorem aiD (N:Nat):ab Pg 23 (Ou (Qi N)):=Vu N _ (ajm N)
theorem ajc (N:Nat):ab Pg 14 (Ru (Th N)):=aci N _ (aiD N)
theorem ajn (N:Nat):ab Pg 25 (RE (IF N)):=adn N
theorem aiZ (N:Nat):ab Pg 72 (OR (Qt N)):=VQ N _ (Mp N)
theorem aiC (N:Nat):ab Pg 58 (Ot (Qh N)):=Vt N _ _ (aiZ N) (Vn N)
theorem akx (N:Nat):ab Pg 31 (aac (W0 N)):=acT N _ (aiC N)
theorem ai0 (N:Nat):ab Pg 69 (OT (Qu N)):=VR N _ (Mp N)
theorem aiK (N:Nat):ab Pg 70 (OB (Qm N)):=VB N
theorem aiT (N:Nat):ab Pg 71 (OL (Qp N)):=VK N _ (Mp N)
theorem akQ (N:Nat):ab Pg 57 (aat (aep N)):=adf N _ _ _ _ (ai0 N) (Vn N) (aiK N) (aiT N)
theorem akK (N:Nat):ab Pg 30 (aan (Nq N)):=ac7 N _ (akQ N)
theorem ai9 (N:Nat):ab Pg 13 (Rs (WR N)):=ab7 N _ _ _ (ajn N) (akx N) (akK N)
theorem akd (N:Nat):ab Pg 10 (ZY (aea N)):=acl N _ _ _ (ajc N) (ai9 N) (ajn N)
theorem aiB (N:Nat):ab Pg 32 (Oq (Qg N)):=Vs N _ (ajm N)
theorem akk (N:Nat):ab Pg 15 (Z4 (aed N)):=acB N _ (aiB N)
theorem ak3 (N:Nat) (p h r z:Int) (hG:agK N p h r z (λb=>b)=true):OkC Pg 3 (IH.args [.int p,.int h,.int r,.int z]) [] (.bool true) []:=
 ag3 N _ _ _ _ _ _ _ _ _ _ _ _ (akH N) (ai1 N) (Ia N) (akl N) (ai_ N) (aj_ N) (aiM N) (akd N) (u9 N) (ai9 N) (ajc N) (akk N) p h r z hG
end Go.Proofs.YtldenpmpmifnlaaGreatDoor
end
