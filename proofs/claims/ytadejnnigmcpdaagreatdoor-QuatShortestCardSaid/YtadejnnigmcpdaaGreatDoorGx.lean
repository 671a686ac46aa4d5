/-
  The program's functions without a body, and those that aE at bits, tied to their meanings.
  Conditions: none.
-/
import Derived.Test.YtadejnnigmcpdaaGreatDoorGs
import Derived.Test.YtadejnnigmcpdaaGreatDoorMachP
import Derived.Test.YtadejnnigmcpdaaGreatDoorL1
import Derived.Test.YtadejnnigmcpdaaGreatDoorGt0
import Derived.Test.YtadejnnigmcpdaaGreatDoorGt3
import Derived.Test.YtadejnnigmcpdaaGreatDoorGt6
import Derived.Test.YtadejnnigmcpdaaGreatDoorGt8
set_option linter.unusedVariables false
section
namespace Go.Proofs.YtadejnnigmcpdaaGreatDoor
open Go Go.Mach Go.Proofs
set_option maxRecDepth 20000
theorem acD (N:Nat):ac Pg 95 (Cg (D1 N)):=
 jF (BG (fn:=Tryz.f95) (by kernel_rfl) (by kernel_rfl) (by kernel_rfl) (by kernel_rfl) (by kernel_rfl)) λa k h=>by
  unfold Wt at h; split at h
  ·exact h
  ·cases h
theorem AB (N:Nat):ac Pg 95 (kN (kr N)):=
 jF (Oh (fn:=Tryz.f95) (by kernel_rfl) (by kernel_rfl) (by kernel_rfl) (by kernel_rfl) (by kernel_rfl)) λa k h=>by
  unfold Wl kr at h; split at h
  ·split at h
   ·exact h
   ·cases h
  ·cases h
theorem xc (N:Nat):ac Pg 82 (jO (pj N)):=
 jF (yJ (fn:=Tryz.f82) (by kernel_rfl) (by kernel_rfl) (by kernel_rfl) (by kernel_rfl) (by kernel_rfl)) λa k h=>by
  unfold Wh at h; split at h
  ·exact h
  ·cases h
theorem akz (N:Nat):ac Pg 124 (PC (ac_ N)):=
 jF (Oj (fn:=Tryz.f124) (by kernel_rfl) (by kernel_rfl) (by kernel_rfl) (by kernel_rfl) (by kernel_rfl) XO) λa k h=>by
  unfold Wx at h; split at h
  ·exact h
  ·cases h
theorem akQ (N:Nat):ac Pg 183 (PH (ahf N)):=
 jF (Fr (fn:=Tryz.f183) (by kernel_rfl) (by kernel_rfl) (by kernel_rfl) (by kernel_rfl) (by kernel_rfl)) λa k h=>by
  unfold adk at h; split at h
  ·exact h
  ·cases h
theorem ajx (N:Nat):ac Pg 191 (PA (acQ N)):=
 jF (Fv (fn:=Tryz.f191) (by kernel_rfl) (by kernel_rfl) (by kernel_rfl) (by kernel_rfl) (by kernel_rfl)) λa k h=>by
  unfold Wk at h; split at h
  ·exact h
  ·cases h
theorem alC (N:Nat) (h:ac Pg 126 (Ju (A9 N))):ac Pg 126 (Jd (DZ N)):=by
 have q:∀ b,wN (cn (some b))=wN (some b):=by intro b; by_cases hb:isNaN b=true <;> simp[cn,wN,cls,hb]
 refine xd (HN (DZ N)) (λx=>.int .i64 (wN x)) h rfl (λa k hk=>?_) (λb k=>?_) (λb=>by rw[q])
 ·unfold HN at hk; split at hk
  ·exact⟨_,rfl,hk⟩
  ·cases hk
 ·have e:Ju (A9 N) [.val (.float .f64 b)] [] k=A9 N b (λr0=>k (.int .i64 r0) []):=by kernel_rfl
  rw[e,On,q]; rfl
theorem abZ (N:Nat) (h:ac Pg 47 (JD (A_ N))):ac Pg 47 (bE (dg N)):=by
 have q:∀ b,cW (cn (some b))=cW (some b):=by
  intro b;by_cases hb:isNaN b=true
  ·have hb':=(fA b).1 hb;have:isNaN (b%9223372036854775808)=true:=(fA _).2 (by omega);simp[cn,cW,cP,hb,this]
  ·simp[cn,hb]
 refine xd (yj (dg N)) (λx=>.flt (cW x)) h rfl (λa k hk=>?_) (λb k=>?_) (λb=>by rw[q])
 ·unfold yj at hk; split at hk
  ·exact⟨_,rfl,hk⟩
  ·cases hk
 ·have e:JD (A_ N) [.val (.float .f64 b)] [] k=A_ N b (λr0=>k (.flt r0) []):=by kernel_rfl
  rw[e,abh,q]
end Go.Proofs.YtadejnnigmcpdaaGreatDoor
end
section
namespace Go.Proofs.YtadejnnigmcpdaaGreatDoor
open Go Go.Mach Go.Proofs
theorem KF (N:Nat):ac Pg 155 (nU (wm N)):=Ft N
theorem acE (N:Nat):ac Pg 190 (zp (Ls N)):=Tu N
theorem acl (N:Nat):ac Pg 209 (y8 (K6 N)):=Sl N
theorem aju (N:Nat):ac Pg 201 (IB (K3 N)):=Sk N _ _ (acE N) (acl N)
theorem afQ (N:Nat):ac Pg 179 (Cm (UN N)):=aa1 N
theorem aku (N:Nat):ac Pg 202 (Jz (Lz N)):=TH N _ _ (acl N) (afQ N)
theorem amC (N:Nat):ac Pg 189 (YH (abK N)):=aa3 N _ _ (aju N) (aku N)
theorem akE (N:Nat):ac Pg 176 (Nw (UJ N)):=aaf N _ _ _ (amC N) (acE N) (afQ N)
theorem akD (N:Nat):ac Pg 154 (Nv (UI N)):=aae N _ (akE N)
theorem ako (N:Nat):ac Pg 126 (Ju (A9 N)):=TC N _ _ _ (acD N) (KF N) (akD N)
theorem aky (N:Nat):ac Pg 47 (JD (A_ N)):=TL N _ _ (acD N) (xc N)
theorem R3 (N:Nat):ac Pg 48 (mQ (D3 N)):=Z5 N
theorem ZJ (N:Nat):ac Pg 42 (yx (Gi N)):=ZV N _ (R3 N)
theorem afK (N:Nat):ac Pg 43 (si (Gl N)):=aad N
theorem ko (N:Nat):ac Pg 47 (bE (dg N)):=abZ N (aky N)
theorem acv (N:Nat):ac Pg 110 (zi (A6 N)):=SZ N _ (ko N)
theorem acA (N:Nat):ac Pg 111 (zm (Lk N)):=S6 N
theorem akN (N:Nat):ac Pg 112 (NG (O8 N)):=aaT N _ (ko N)
theorem akw (N:Nat):ac Pg 123 (JB (UH N)):=TJ N _ _ _ _ _ (acv N) (acA N) (akN N) (AB N) (xc N)
theorem RX (N:Nat):ac Pg 75 (uR (kb N)):=Sg N _ (akw N)
theorem ajC (N:Nat):ac Pg 113 (IH (Lc N)):=Sz N _ _ (AB N) (xc N)
theorem ZM (N:Nat):ac Pg 114 (vY (ov N)):=Fu N _ (xc N)
theorem akr (N:Nat):ac Pg 64 (Jx (Lx N)):=TF N _ _ _ _ _ _ _ (acv N) (acA N) (akN N) (AB N) (ajC N) (ZM N) (xc N)
theorem R5 (N:Nat):ac Pg 26 (sk (pZ N)):=aaS N _ (akr N)
theorem KE (N:Nat):ac Pg 76 (oK (DT N)):=SD N _ (akz N)
theorem aj9 (N:Nat):ac Pg 77 (Jf (ac0 N)):=Th N
theorem akO (N:Nat):ac Pg 35 (wu (uJ N)):=aaU N _ _ _ _ _ _ _ (ZJ N) (afK N) (ko N) (RX N) (R5 N) (KE N) (aj9 N)
theorem akL (N:Nat):ac Pg 49 (wt (abJ N)):=aaK N
theorem aki (N:Nat):ac Pg 50 (Jp (Lt N)):=Tw N _ (R3 N)
theorem aco (N:Nat):ac Pg 13 (wo (A4 N)):=Sr N _ _ _ _ (ZJ N) (R3 N) (akL N) (aki N)
theorem ajF (N:Nat):ac Pg 42 (IK (Lf N)):=SE N _ (R3 N)
theorem akp (N:Nat):ac Pg 83 (Jv (ac7 N)):=TD N
theorem aj_ (N:Nat):ac Pg 72 (Jg (ac1 N)):=Ti N _ (ZJ N)
theorem akm (N:Nat):ac Pg 40 (Js (ac6 N)):=TA N _ _ _ (ajF N) (akp N) (aj_ N)
theorem aj7 (N:Nat):ac Pg 126 (Jd (DZ N)):=alC N (ako N)
theorem ack (N:Nat):ac Pg 84 (y7 (DQ N)):=Se N _ (aj7 N)
theorem gZ8 (N:Nat):ac Pg 180 (FZ8 (sZ8 N)):=afZ N
theorem amy (N:Nat):ac Pg 157 (YF (als N)):=aaV N _ _ _ _ (akE N) (akD N) (afQ N) (gZ8 N)
theorem akk (N:Nat):ac Pg 129 (Jq (ac5 N)):=Ty N _ _ _ (AB N) (KF N) (amy N)
theorem gZ3 (N:Nat):ac Pg 167 (FZ3 (sZ3 N)):=afU N
theorem acy (N:Nat):ac Pg 158 (zl (UA N)):=S2 N _ (gZ3 N)
theorem gZ2 (N:Nat):ac Pg 139 (FZ2 (sZ2 N)):=afT N
theorem amn (N:Nat):ac Pg 130 (Yx (alm N)):=aaC N _ _ (acy N) (gZ2 N)
theorem ZL (N:Nat):ac Pg 140 (yA (UO N)):=aa2 N
theorem afL (N:Nat):ac Pg 139 (Ch (abG N)):=aai N
theorem akB (N:Nat):ac Pg 91 (Nt (ag5 N)):=aaa N _ _ (ZL N) (afL N)
theorem akg (N:Nat):ac Pg 86 (Jn (ac3 N)):=Tt N _ _ _ (akk N) (amn N) (akB N)
theorem ajH (N:Nat):ac Pg 192 (IM (acS N)):=SI N
theorem ajD (N:Nat):ac Pg 181 (II (acR N)):=SA N _ _ (ajH N) (akQ N)
theorem aj1 (N:Nat):ac Pg 159 (I9 (acZ N)):=Tb N _ _ (ajD N) (gZ3 N)
theorem amp (N:Nat):ac Pg 131 (Yy (aln N)):=aaF N _ _ (aj1 N) (gZ2 N)
theorem al2 (N:Nat):ac Pg 87 (Yf (ak7 N)):=ZZ N _ (amp N)
theorem amG (N:Nat):ac Pg 94 (YL (alu N)):=aa7 N
theorem gZ5 (N:Nat):ac Pg 94 (FZ5 (sZ5 N)):=afW N
theorem RZ (N:Nat):ac Pg 169 (uT (Ld N)):=SB N _ (gZ3 N)
theorem amx (N:Nat):ac Pg 141 (YE (alr N)):=aaP N _ _ (RZ N) (gZ2 N)
theorem akG (N:Nat):ac Pg 128 (Ny (ag7 N)):=aaj N _ (amx N)
theorem Og (N:Nat):ac Pg 170 (qu (Gk N)):=Z1 N
theorem acB (N:Nat):ac Pg 166 (zn (UE N)):=Tp N _ _ _ (Og N) (akQ N) (gZ3 N)
theorem ajN (N:Nat):ac Pg 177 (IV (acT N)):=SQ N
theorem akh (N:Nat):ac Pg 178 (Jo (ac4 N)):=Tv N _ _ _ (Og N) (ajx N) (gZ3 N)
theorem amw (N:Nat):ac Pg 156 (YD (alq N)):=aaN N _ _ _ _ (acB N) (gZ2 N) (ajN N) (akh N)
theorem akC (N:Nat):ac Pg 127 (Nu (ag6 N)):=aab N _ (amw N)
theorem al3 (N:Nat):ac Pg 85 (Yg (ak8 N)):=Z2 N _ _ _ _ (amG N) (gZ5 N) (akG N) (akC N)
theorem gZ6 (N:Nat):ac Pg 85 (FZ6 (sZ6 N)):=afX N _ _ _ (gZ5 N) (akG N) (akC N)
theorem amb (N:Nat):ac Pg 160 (Yo (alc N)):=aam N _ _ (ZL N) (gZ2 N)
theorem amq (N:Nat):ac Pg 161 (Yz (alo N)):=aaG N _ (Og N)
theorem alY (N:Nat):ac Pg 162 (Yc (ak6 N)):=ZP N _ (gZ8 N)
theorem ajX (N:Nat):ac Pg 165 (I5 (acX N)):=S8 N _ _ (Og N) (gZ3 N)
theorem akt (N:Nat):ac Pg 136 (Nr (ag4 N)):=ZX N _ _ _ (ajX N) (acB N) (afL N)
theorem al4 (N:Nat):ac Pg 132 (Yh (ak9 N)):=Z4 N _ _ _ _ _ (amb N) (gZ5 N) (amq N) (alY N) (akt N)
theorem ajw (N:Nat):ac Pg 182 (IC (acP N)):=Ss N
theorem ajZ (N:Nat):ac Pg 163 (I7 (acY N)):=S_ N _ (ajw N)
theorem amd (N:Nat):ac Pg 133 (Yq (ale N)):=aao N _ (ajZ N)
theorem amr (N:Nat):ac Pg 164 (YA (alp N)):=aaH N _ _ (acy N) (gZ2 N)
theorem akM (N:Nat):ac Pg 134 (NF (ahd N)):=aaM N _ (amr N)
theorem amc (N:Nat):ac Pg 135 (Yp (ald N)):=aan N _ _ (ZL N) (gZ2 N)
theorem amg (N:Nat):ac Pg 139 (Yt (alh N)):=aas N
theorem al7 (N:Nat):ac Pg 137 (Yk (ala N)):=Z8 N _ _ (gZ3 N) (amg N)
theorem akv (N:Nat):ac Pg 168 (JA (ac8 N)):=TI N _ (Og N)
theorem ame (N:Nat):ac Pg 138 (Yr (alf N)):=aap N _ (akv N)
theorem aj4 (N:Nat):ac Pg 88 (Nm (ag3 N)):=ZU N _ _ _ _ _ _ _ _ (al4 N) (gZ5 N) (amd N) (akM N) (amc N) (al7 N) (ame N) (akt N)
theorem ajm (N:Nat):ac Pg 44 (Iu (acL N)):=R8 N _ _ _ _ _ _ (ack N) (akg N) (al2 N) (al3 N) (gZ6 N) (aj4 N)
theorem acx (N:Nat):ac Pg 92 (zk (Uz N)):=S1 N
theorem ami (N:Nat):ac Pg 141 (Yv (alj N)):=aau N _ _ (RZ N) (gZ2 N)
theorem amh (N:Nat):ac Pg 139 (Yu (ali N)):=aat N
theorem al_ (N:Nat):ac Pg 142 (Yn (alb N)):=aag N _ _ _ (Og N) (gZ3 N) (amh N)
theorem amj (N:Nat):ac Pg 141 (Yw (alk N)):=aav N _ _ (RZ N) (afL N)
theorem acs (N:Nat):ac Pg 93 (zf (Uw N)):=SK N _ _ _ _ _ (ami N) (akM N) (al_ N) (amj N) (akB N)
theorem akH (N:Nat):ac Pg 91 (Nz (ag8 N)):=aar N _ _ (ZL N) (gZ2 N)
theorem amA (N:Nat):ac Pg 90 (YG (alt N)):=aaZ N _ _ (akH N) (gZ6 N)
theorem ajQ (N:Nat):ac Pg 89 (IY (acV N)):=SU N _ _ _ _ (acx N) (acs N) (amA N) (aj4 N)
theorem ajo (N:Nat):ac Pg 45 (Iw (acN N)):=R_ N _ (ajQ N)
theorem amf (N:Nat):ac Pg 46 (Ys (alg N)):=aaq N _ _ _ _ _ (acx N) (acs N) (akH N) (gZ6 N) (gZ5 N)
theorem ajP (N:Nat):ac Pg 11 (IX (acU N)):=SS N _ _ _ _ _ (ZJ N) (afK N) (ajm N) (ajo N) (amf N)
theorem amH (N:Nat):ac Pg 41 (YM (alv N)):=aa_ N
theorem aml (N:Nat):ac Pg 8 (PF (ag_ N)):=aay N _ _ _ _ _ (akO N) (aco N) (akm N) (ajP N) (amH N)
theorem ajn (N:Nat):ac Pg 39 (Iv (acM N)):=R9 N _ (xc N)
theorem amk (N:Nat):ac Pg 10 (PE (ag9 N)):=aax N _ (ajn N)
theorem amm (N:Nat):ac Pg 12 (PG (abI N)):=aaz N _ _ (ko N) (R5 N)
theorem akn (N:Nat):ac Pg 151 (Jt (Lv N)):=TB N _ (AB N)
theorem acn (N:Nat):ac Pg 115 (y_ (A3 N)):=So N _ (akn N)
theorem ajJ (N:Nat):ac Pg 175 (IQ (Ux N)):=SM N
theorem aka (N:Nat):ac Pg 150 (Jh (Lp N)):=Tj N _ _ (acn N) (ajJ N)
theorem akR (N:Nat):ac Pg 107 (NI (UP N)):=aa8 N _ (aka N)
theorem afM (N:Nat):ac Pg 102 (Ci (O6 N)):=aaB N _ (akR N)
theorem amv (N:Nat):ac Pg 59 (Bn (ahc N)):=aaL N _ (afM N)
theorem amo (N:Nat):ac Pg 58 (Bm (ahb N)):=aaD N
theorem akl (N:Nat):ac Pg 103 (Jr (Lu N)):=Tz N _ (afM N)
theorem acr (N:Nat):ac Pg 104 (ze (A5 N)):=SG N _ _ (ko N) (RX N)
theorem ajE (N:Nat):ac Pg 171 (IJ (Le N)):=SC N
theorem ajt (N:Nat):ac Pg 172 (IA (K1 N)):=Sj N
theorem Dj (N:Nat):ac Pg 147 (oA (rN N)):=ZO N
theorem RY (N:Nat):ac Pg 117 (uS (AZ N)):=Sn N _ (Dj N)
theorem acC (N:Nat):ac Pg 147 (zo (D0 N)):=Tq N
theorem Fq (N:Nat):ac Pg 99 (oC (yW N)):=aac N _ (acC N)
theorem akJ (N:Nat):ac Pg 67 (ND (O5 N)):=aaA N _ _ (RY N) (Fq N)
theorem ZK (N:Nat):ac Pg 99 (yz (Gm N)):=aaO N _ (acC N)
theorem amE (N:Nat):ac Pg 67 (YJ (abM N)):=aa5 N _ _ (RY N) (ZK N)
theorem aj5 (N:Nat):ac Pg 173 (Jb (A8 N)):=Te N _ _ (akJ N) (amE N)
theorem acF (N:Nat):ac Pg 184 (zq (UG N)):=Tx N
theorem akc (N:Nat):ac Pg 174 (Jj (ac2 N)):=Tl N _ (acF N)
theorem afN (N:Nat):ac Pg 193 (Cj (pY N)):=aaQ N
theorem acm (N:Nat):ac Pg 185 (y9 (K7 N)):=Sm N _ (afN N)
theorem Fp (N:Nat):ac Pg 52 (oB (nG N)):=Z3 N
theorem ake (N:Nat):ac Pg 186 (Jl (UD N)):=To N _ (Fp N)
theorem akf (N:Nat):ac Pg 187 (Jm (UF N)):=Ts N _ (afN N)
theorem ajG (N:Nat):ac Pg 203 (IL (Lg N)):=SH N
theorem gZ7 (N:Nat):ac Pg 194 (FZ7 (sZ7 N)):=afY N _ (ajG N)
theorem akS (N:Nat):ac Pg 99 (NJ (UQ N)):=aa9 N _ (Dj N)
theorem alX (N:Nat):ac Pg 195 (Yb (vO N)):=ZN N _ (akS N)
theorem acu (N:Nat):ac Pg 146 (zh (DX N)):=SY N _ (Dj N)
theorem al0 (N:Nat):ac Pg 98 (Ye (vP N)):=ZS N _ _ (acu N) (ZK N)
theorem act (N:Nat):ac Pg 207 (zg (DV N)):=SL N _ (Dj N)
theorem R4 (N:Nat):ac Pg 145 (vD (D5 N)):=aal N _ (Dj N)
theorem KD (N:Nat):ac Pg 143 (oJ (xW N)):=Si N _ (Dj N)
theorem ajB (N:Nat):ac Pg 198 (IG (La N)):=Sx N _ _ _ _ (act N) (Fq N) (R4 N) (KD N)
theorem akP (N:Nat):ac Pg 98 (NH (UL N)):=aaX N _ _ (acu N) (Fq N)
theorem afO (N:Nat):ac Pg 144 (Ck (O7 N)):=aaR N
theorem akK (N:Nat):ac Pg 97 (NE (UK N)):=aaE N _ _ _ _ (KD N) (Fq N) (afO N) (R4 N)
theorem amF (N:Nat):ac Pg 204 (YK (abN N)):=aa6 N _ (akK N)
theorem ajp (N:Nat):ac Pg 96 (Ix (Uu N)):=Sa N _ _ (RY N) (Fq N)
theorem ZI (N:Nat):ac Pg 51 (yw (ms N)):=ZR N _ (ajp N)
theorem ajz (N:Nat):ac Pg 205 (IE (K8 N)):=Sv N _ (afO N)
theorem amu (N:Nat):ac Pg 196 (YC (vR N)):=aaJ N _ _ _ _ _ _ (ajB N) (akP N) (amF N) (Fp N) (ZI N) (ajz N)
theorem ajO (N:Nat):ac Pg 206 (IW (Li N)):=SR N _ (R4 N)
theorem al5 (N:Nat):ac Pg 197 (Yi (vQ N)):=Z6 N _ (ajO N)
theorem ajl (N:Nat):ac Pg 97 (It (KZ N)):=R7 N _ _ _ _ (KD N) (ZK N) (afO N) (R4 N)
theorem gZ4 (N:Nat):ac Pg 53 (FZ4 (sZ4 N)):=afV N _ (ajl N)
theorem alZ (N:Nat):ac Pg 198 (Yd (uI N)):=ZQ N _ _ _ _ (act N) (ZK N) (R4 N) (KD N)
theorem ams (N:Nat):ac Pg 199 (YB (xZ N)):=aaI N _ (acm N)
theorem gZ9 (N:Nat):ac Pg 200 (FZ9 (sZ9 N)):=af0 N
theorem ajU (N:Nat):ac Pg 188 (I2 (Lj N)):=S3 N _ _ _ _ _ _ _ _ _ _ _ (gZ7 N) (alX N) (al0 N) (amu N) (al5 N) (ZI N) (gZ4 N) (alZ N) (ams N) (gZ9 N) (afN N)
theorem ajy (N:Nat):ac Pg 174 (ID (DR N)):=Su N _ _ _ _ _ (acF N) (acm N) (ake N) (akf N) (ajU N)
theorem ajY (N:Nat):ac Pg 149 (I6 (A7 N)):=S9 N _ _ _ _ _ (ajE N) (ajt N) (aj5 N) (akc N) (ajy N)
theorem afP (N:Nat):ac Pg 106 (Cl (yX N)):=aaW N _ _ _ (AB N) (ajY N) (xc N)
theorem akd (N:Nat):ac Pg 148 (Jk (Lr N)):=Tn N
theorem ajS (N:Nat):ac Pg 105 (I0 (DW N)):=SW N _ _ _ (afP N) (akd N) (KE N)
theorem ajk (N:Nat):ac Pg 60 (qr (xV N)):=R6 N _ _ _ _ _ (akl N) (acr N) (ajS N) (afP N) (akR N)
theorem ajv (N:Nat):ac Pg 61 (qs (Uv N)):=Sq N
theorem acw (N:Nat):ac Pg 108 (zj (DY N)):=S0 N
theorem ajW (N:Nat):ac Pg 78 (I4 (UC N)):=S7 N _ _ (acw N) (afM N)
theorem ajq (N:Nat):ac Pg 58 (Iy (K0 N)):=Sb N
theorem akx (N:Nat):ac Pg 109 (JC (ac9 N)):=TK N
theorem ajK (N:Nat):ac Pg 62 (qt (vA N)):=SN N _ _ _ _ _ _ _ (ajW N) (ajq N) (acw N) (acr N) (afP N) (KE N) (akx N)
theorem ajr (N:Nat):ac Pg 25 (Ce (DP N)):=Sd N _ _ _ _ _ _ (amv N) (amo N) (ajk N) (ajv N) (ko N) (ajK N)
theorem akq (N:Nat):ac Pg 119 (Jw (D2 N)):=TE N _ (ack N)
theorem akb (N:Nat):ac Pg 152 (Ji (Lq N)):=Tk N _ _ (ko N) (RX N)
theorem aj0 (N:Nat):ac Pg 153 (I8 (Ll N)):=Ta N _ _ (R5 N) (KE N)
theorem ajT (N:Nat):ac Pg 120 (I1 (xX N)):=SX N _ _ _ (akb N) (aj0 N) (R5 N)
theorem aj3 (N:Nat):ac Pg 121 (Ja (Ln N)):=Td N
theorem ajM (N:Nat):ac Pg 73 (IU (jk N)):=SP N _ _ _ (akq N) (ajT N) (aj3 N)
theorem amz (N:Nat):ac Pg 65 (Bo (ahe N)):=aaY N _ (ajM N)
theorem amB (N:Nat):ac Pg 27 (PI (UM N)):=aa0 N _ _ _ _ _ _ (R3 N) (amz N) (akL N) (afK N) (ko N) (akO N)
theorem ajV (N:Nat):ac Pg 100 (I3 (UB N)):=S4 N
theorem aj8 (N:Nat):ac Pg 116 (Je (xY N)):=Tg N
theorem aj2 (N:Nat):ac Pg 66 (I_ (Lm N)):=Tc N _ _ (acn N) (aj8 N)
theorem ajL (N:Nat):ac Pg 99 (IR (Uy N)):=SO N _ (Dj N)
theorem ajI (N:Nat):ac Pg 55 (IP (Lh N)):=SJ N _ (ajL N)
theorem acz (N:Nat):ac Pg 28 (ws (rO N)):=S5 N _ _ _ (aj2 N) (akJ N) (ajI N)
theorem acq (N:Nat):ac Pg 101 (zd (DU N)):=SF N _ (Dj N)
theorem amD (N:Nat):ac Pg 57 (YI (abL N)):=aa4 N _ _ (acq N) (Fq N)
theorem gZ0 (N:Nat):ac Pg 19 (FZ0 (sZ0 N)):=afR N _ (amD N)
theorem ajR (N:Nat):ac Pg 52 (IZ (acW N)):=SV N
theorem akF (N:Nat):ac Pg 54 (Nx (O4 N)):=aah N _ (akP N)
theorem akI (N:Nat):ac Pg 53 (NC (D6 N)):=aaw N _ (akK N)
theorem al6 (N:Nat):ac Pg 15 (Yj (ak_ N)):=Z7 N _ _ _ _ (ajR N) (Fp N) (akF N) (akI N)
theorem gZ1 (N:Nat):ac Pg 15 (FZ1 (sZ1 N)):=afS N _ _ _ (Fp N) (akF N) (akI N)
theorem aks (N:Nat):ac Pg 56 (Jy (Ly N)):=TG N _ _ _ _ _ (ajV N) (acz N) (gZ0 N) (al6 N) (gZ1 N)
theorem ama (N:Nat):ac Pg 18 (PD (abH N)):=aak N _ (aks N)
theorem aj6 (N:Nat):ac Pg 16 (Jc (Lo N)):=Tf N _ (ZI N)
theorem ajA (N:Nat):ac Pg 55 (IF (K9 N)):=Sw N _ (akS N)
theorem afJ (N:Nat):ac Pg 17 (Cf (la N)):=ZT N _ (ajA N)
theorem ajs (N:Nat):ac Pg 57 (Iz (acO N)):=Sf N _ _ (acq N) (Fq N)
theorem akA (N:Nat):ac Pg 19 (Ns (O3 N)):=Z0 N _ (ajs N)
theorem acp (N:Nat):ac Pg 14 (zc (DS N)):=Sy N _ (ZI N)
theorem akj (N:Nat):ac Pg 20 (Np (Gj N)):=ZW N _ _ _ (afJ N) (gZ1 N) (Fp N)
theorem al9 (N:Nat):ac Pg 68 (Ym (abF N)):=Z_ N _ _ _ _ _ _ _ (afJ N) (gZ1 N) (Fp N) (akA N) (gZ0 N) (acp N) (akj N)
theorem al8 (N:Nat):ac Pg 69 (Yl (abE N)):=Z9 N _ _ _ _ _ _ _ (gZ1 N) (afJ N) (Fp N) (akA N) (gZ0 N) (acp N) (akj N)
theorem al1 (N:Nat):ac Pg 29 (PB (abD N)):=ZY N _ _ _ _ (aj6 N) (gZ0 N) (al9 N) (al8 N)
theorem amL (N:Nat) (u_0 u_1 u_2 v_0 v_1 v_2:Int) (hG:aha N u_0 u_1 u_2 v_0 v_1 v_2 (λb=>b)=true):OkC Pg 5 (B6.args [.int u_0,.int u_1,.int u_2,.int v_0,.int v_1,.int v_2]) [] (.bool true) []:=
 ahB N _ _ _ _ _ _ _ _ _ _ _ (aml N) (amk N) (amm N) (ajr N) (R5 N) (amB N) (aco N) (ama N) (acz N) (gZ0 N) (al1 N) u_0 u_1 u_2 v_0 v_1 v_2 hG
end Go.Proofs.YtadejnnigmcpdaaGreatDoor
end
