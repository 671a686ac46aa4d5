/-
  The program's functions without a body, and those that aw at bits, tied to their meanings.
  Conditions: none.
-/
import Derived.Test.YteifemaagdeomaaGreatDoorGs
import Derived.Test.YteifemaagdeomaaGreatDoorMachT
import Derived.Test.YteifemaagdeomaaGreatDoorX0
import Derived.Test.YteifemaagdeomaaGreatDoorGt0
import Derived.Test.YteifemaagdeomaaGreatDoorGt3
import Derived.Test.YteifemaagdeomaaGreatDoorGt7
import Derived.Test.YteifemaagdeomaaGreatDoorGt11
set_option linter.unusedVariables false
section
namespace Go.Proofs.YteifemaagdeomaaGreatDoor
open Go Go.Mach Go.Proofs
set_option maxRecDepth 20000
theorem abr (N:Nat):ab Pg 40 (Tz (Jn N)):=
 vP (LQ (fn:=Tryz.f40) (by kernel_rfl) (by kernel_rfl) (by kernel_rfl) (by kernel_rfl) (by kernel_rfl)) λa k h=>by
  unfold afP at h; split at h
  ·exact h
  ·cases h
theorem abt (N:Nat):ab Pg 40 (TI (Lj N)):=
 vP (WH (fn:=Tryz.f40) (by kernel_rfl) (by kernel_rfl) (by kernel_rfl) (by kernel_rfl) (by kernel_rfl)) λa k h=>by
  unfold af1 Lj at h; split at h
  ·split at h
   ·exact h
   ·cases h
  ·cases h
theorem alg (N:Nat):ab Pg 36 (TH (Pq N)):=
 vP (J1 (fn:=Tryz.f36) (by kernel_rfl) (by kernel_rfl) (by kernel_rfl) (by kernel_rfl) (by kernel_rfl)) λa k h=>by
  unfold af0 at h; split at h
  ·exact h
  ·cases h
theorem WE (N:Nat):ab Pg 228 (FX (Cl N)):=
 vP (QV (fn:=Tryz.f228) (by kernel_rfl) (by kernel_rfl) (by kernel_rfl) (by kernel_rfl) (by kernel_rfl)) λa k h=>by
  unfold alz at h; split at h
  ·exact h
  ·cases h
theorem anc (N:Nat):ab Pg 237 (PW (aeo N)):=
 vP (QY (fn:=Tryz.f237) (by kernel_rfl) (by kernel_rfl) (by kernel_rfl) (by kernel_rfl) (by kernel_rfl)) λa k h=>by
  unfold alH at h; split at h
  ·exact h
  ·cases h
theorem arc (N:Nat) (h:ab Pg 99 (TK (Lk N))):ab Pg 99 (TF (Pp N)):=by
 have q:∀ b,H_ (cn (some b))=H_ (some b):=by intro b; by_cases hb:isNaN b=true <;> simp[cn,H_,cls,hb]
 refine IA (SJ (Pp N)) (λx=>.int .i64 (H_ x)) h rfl (λa k hk=>?_) (λb k=>?_) (λb=>by rw[q])
 ·unfold SJ at hk; split at hk
  ·exact⟨_,rfl,hk⟩
  ·cases hk
 ·have e:TK (Lk N) [.val (.float .f64 b)] [] k=Lk N b (λr0=>k (.int .i64 r0) []):=by kernel_rfl
  rw[e,WO,q]; rfl
theorem arb (N:Nat) (h:ab Pg 88 (TL (Ll N))):ab Pg 88 (TE (Po N)):=by
 have q:∀ x,cn (cn x)=cn x:=by
  intro x;cases x with
  | none=>rfl
  | some b=>by_cases hb:isNaN b=true <;> simp[cn,hb]
 refine QX (SG (Po N)) (λx y=>.bool (decide (cn x=cn y))) h rfl (λa k hk=>?_) (λb c k=>?_) (λx y=>by simp only[q])
 ·unfold SG at hk; split at hk
  ·exact⟨_,_,rfl,hk⟩
  ·cases hk
 ·have e:TL (Ll N) [.val (.float .f64 b),.val (.float .f64 c)] [] k=Ll N b c (λr0=>k (.bool r0) []):=by kernel_rfl
  rw[e,ads]; simp only[q]
theorem akQ (N:Nat) (h:ab Pg 105 (TM (Lm N))):ab Pg 105 (Lv (Gx N)):=by
 have q:∀ b,Nu (cn (some b))=Nu (some b):=by
  intro b;by_cases hb:isNaN b=true
  ·have hb':=(kd b).1 hb;have:isNaN (b%9223372036854775808)=true:=(kd _).2 (by omega);simp[cn,Nu,qx,hb,this]
  ·simp[cn,hb]
 refine IA (JC (Gx N)) (λx=>.flt (Nu x)) h rfl (λa k hk=>?_) (λb k=>?_) (λb=>by rw[q])
 ·unfold JC at hk; split at hk
  ·exact⟨_,rfl,hk⟩
  ·cases hk
 ·have e:TM (Lm N) [.val (.float .f64 b)] [] k=Lm N b (λr0=>k (.flt r0) []):=by kernel_rfl
  rw[e,ai1,q]
end Go.Proofs.YteifemaagdeomaaGreatDoor
end
section
namespace Go.Proofs.YteifemaagdeomaaGreatDoor
open Go Go.Mach Go.Proofs
theorem LN (N:Nat):ab Pg 104 (CE (Ay N)):=QW N
theorem alh (N:Nat):ab Pg 135 (TJ (Vo N)):=ac_ N
theorem alb (N:Nat):ab Pg 136 (Tp (Va N)):=acx N
theorem apV (N:Nat):ab Pg 119 (Yc (U_ N)):=acw N _ _ (alh N) (alb N)
theorem abn (N:Nat):ab Pg 137 (Ki (DG N)):=ace N
theorem aqA (N:Nat):ab Pg 120 (YE (Vt N)):=adh N _ _ (alb N) (abn N)
theorem ak5 (N:Nat):ab Pg 103 (S_ (Pa N)):=abI N _ _ (apV N) (aqA N)
theorem aqK (N:Nat):ab Pg 130 (YL (Px N)):=aiC N _ _ _ (ak5 N) (alh N) (abn N)
theorem aqJ (N:Nat):ab Pg 114 (YK (Pw N)):=aiB N _ (aqK N)
theorem aqx (N:Nat):ab Pg 99 (TK (Lk N)):=ade N _ _ _ (abr N) (LN N) (aqJ N)
theorem aqy (N:Nat):ab Pg 88 (TL (Ll N)):=adf N _ _ _ (abr N) (LN N) (ak5 N)
theorem aqD (N:Nat):ab Pg 105 (TM (Lm N)):=adk N _ _ (abr N) (alg N)
theorem arO (N:Nat):ab Pg 9 (amf (ajx N)):=aiU N _ (alg N)
theorem gQ4 (N:Nat):ab Pg 8 (FQ4 (sQ4 N)):=ano N _ (arO N)
theorem aqb (N:Nat):ab Pg 98 (Ym (Vg N)):=acS N
theorem aqn (N:Nat):ab Pg 99 (TF (Pp N)):=arc N (aqx N)
theorem ahJ (N:Nat):ab Pg 72 (PY (RM N)):=ah6 N _ (aqn N)
theorem ahI (N:Nat):ab Pg 71 (M6 (RL N)):=ah5 N _ _ (aqb N) (ahJ N)
theorem ak6 (N:Nat):ab Pg 89 (Kg (Pb N)):=abS N
theorem aqk (N:Nat):ab Pg 88 (TE (Po N)):=arb N (aqy N)
theorem arA (N:Nat):ab Pg 58 (amd (aju N)):=aiv N _ _ _ (ahI N) (ak6 N) (aqk N)
theorem lD (N:Nat):ab Pg 131 (dz (cP N)):=yW N
theorem arv (N:Nat):ab Pg 206 (agS (RS N)):=aim N
theorem apD (N:Nat):ab Pg 184 (X1 (U4 N)):=ab6 N _ _ _ _ (aqK N) (aqJ N) (abn N) (arv N)
theorem aqf (N:Nat):ab Pg 151 (TC (FQ N)):=acW N _ _ _ (abt N) (LN N) (apD N)
theorem gQ9 (N:Nat):ab Pg 207 (FQ9 (sQ9 N)):=anr N
theorem ahN (N:Nat):ab Pg 186 (M8 (ER N)):=ait N _ (gQ9 N)
theorem abu (N:Nat):ab Pg 185 (PZ (Mo N)):=ah8 N
theorem arz (N:Nat):ab Pg 152 (agW (Pv N)):=air N _ _ (ahN N) (abu N)
theorem QU (N:Nat):ab Pg 187 (GD (Gj N)):=aic N
theorem anj (N:Nat):ab Pg 185 (YM (aes N)):=aiH N
theorem arJ (N:Nat):ab Pg 153 (ag5 (Py N)):=aiP N _ _ (QU N) (anj N)
theorem apn (N:Nat):ab Pg 189 (XS (adY N)):=abO N _ _ (ahN N) (abu N)
theorem ak9 (N:Nat):ab Pg 155 (MX (FO N)):=acm N _ (apn N)
theorem aqu (N:Nat):ab Pg 188 (YA (Vp N)):=ada N _ (gQ9 N)
theorem arH (N:Nat):ab Pg 154 (ag2 (RV N)):=aiM N _ _ (aqu N) (abu N)
theorem ahG (N:Nat):ab Pg 209 (Lu (DI N)):=ahZ N
theorem ak7 (N:Nat):ab Pg 231 (Th (Pd N)):=ab8 N
theorem api (N:Nat):ab Pg 218 (S0 (Bd N)):=abH N _ (ak7 N)
theorem Uu (N:Nat):ab Pg 232 (E9 (Ji N)):=abF N
theorem apY (N:Nat):ab Pg 220 (Ts (Bf N)):=acB N _ (Uu N)
theorem apr (N:Nat):ab Pg 219 (Tc (DE N)):=abU N
theorem anh (N:Nat):ab Pg 227 (P1 (Jq N)):=aix N
theorem ahL (N:Nat):ab Pg 211 (JW (RP N)):=aif N _ _ (anh N) (WE N)
theorem aqr (N:Nat):ab Pg 234 (Yx (Vn N)):=ac7 N _ _ (ahL N) (gQ9 N)
theorem ale (N:Nat):ab Pg 233 (TA (Pl N)):=acU N _ _ _ (Uu N) (anc N) (gQ9 N)
theorem yT (N:Nat):ab Pg 221 (jc (bw N)):=vQ N _ _ (aqr N) (ale N)
theorem apg (N:Nat):ab Pg 224 (V_ (adW N)):=ahQ N _ (ak7 N)
theorem anf (N:Nat):ab Pg 235 (M7 (Jp N)):=aih N _ (apg N)
theorem apE (N:Nat):ab Pg 223 (Tg (Pc N)):=ab7 N _ _ (anf N) (gQ9 N)
theorem arB (N:Nat):ab Pg 188 (agX (ajv N)):=aiy N _ (gQ9 N)
theorem aph (N:Nat):ab Pg 236 (SZ (alr N)):=abG N _ _ _ (anf N) (anh N) (WE N)
theorem apj (N:Nat):ab Pg 225 (Ta (als N)):=abJ N _ _ _ _ (aph N) (ahL N) (anc N) (WE N)
theorem arD (N:Nat):ab Pg 236 (agZ (aeq N)):=aiA N _ _ _ (anf N) (anh N) (WE N)
theorem arF (N:Nat):ab Pg 225 (ag1 (ajw N)):=aiJ N _ _ _ _ (arD N) (ahL N) (anc N) (WE N)
theorem apl (N:Nat):ab Pg 207 (Tb (UV N)):=abM N
theorem apy (N:Nat):ab Pg 232 (Te (U2 N)):=ab0 N
theorem arN (N:Nat):ab Pg 226 (ag8 (aeu N)):=aiT N _ _ (apy N) (gQ9 N)
theorem anb (N:Nat):ab Pg 210 (M5 (ye N)):=ah1 N _ _ _ _ _ _ _ _ _ _ _ (ahG N) (QU N) (apE N) (ahN N) (apg N) (arB N) (apj N) (arF N) (apl N) (arN N) (gQ9 N)
theorem apX (N:Nat):ab Pg 222 (Tq (Be N)):=acA N _ (Uu N)
theorem ahO (N:Nat):ab Pg 208 (P2 (Mp N)):=aiF N _ _ _ _ _ _ _ _ (ahG N) (api N) (apY N) (apr N) (yT N) (anb N) (apX N) (ahN N)
theorem ane (N:Nat):ab Pg 185 (Wd (Pt N)):=ah_ N
theorem aqI (N:Nat):ab Pg 185 (YJ (Xw N)):=aiw N
theorem apv (N:Nat):ab Pg 190 (XW (UZ N)):=abX N _ _ _ _ _ _ (ahO N) (ahG N) (anb N) (QU N) (ane N) (aqI N)
theorem aqE (N:Nat):ab Pg 156 (YH (Pr N)):=ah0 N _ (apv N)
theorem Uw (N:Nat):ab Pg 192 (Kh (FN N)):=ab5 N _ _ (ahL N) (gQ9 N)
theorem arC (N:Nat):ab Pg 158 (agY (Xx N)):=aiz N _ _ (Uw N) (anj N)
theorem apu (N:Nat):ab Pg 185 (XV (adZ N)):=abW N
theorem apz (N:Nat):ab Pg 191 (XY (ad0 N)):=ab1 N _ _ (ane N) (apu N)
theorem arw (N:Nat):ab Pg 157 (agT (RU N)):=ain N _ _ (QU N) (apz N)
theorem B4 (N:Nat):ab Pg 132 (kx (kN N)):=xR N _ _ _ _ _ _ _ _ _ (aqf N) (lD N) (arz N) (arJ N) (ak9 N) (arH N) (aqE N) (arC N) (arw N)
theorem AD (N:Nat):ab Pg 117 (jP (jY N)):=wV N _ _ _ (ahI N) (lD N) (B4 N)
theorem kb (N:Nat):ab Pg 159 (bR (bC N)):=tG N
theorem abv (N:Nat):ab Pg 217 (P0 (Pu N)):=aiq N
theorem ahM (N:Nat):ab Pg 191 (Wf (RQ N)):=aii N _ _ (ane N) (aqI N)
theorem apK (N:Nat):ab Pg 213 (X4 (U5 N)):=ach N _ _ _ (QU N) (abv N) (ahM N)
theorem apx (N:Nat):ab Pg 217 (XX (U0 N)):=abZ N
theorem abp (N:Nat):ab Pg 229 (M0 (Jm N)):=acD N _ (anb N)
theorem aqz (N:Nat):ab Pg 238 (YD (Vs N)):=adg N _ _ _ (Uu N) (WE N) (gQ9 N)
theorem aqO (N:Nat):ab Pg 230 (ag4 (aet N)):=aiO N _ _ _ _ (aqz N) (anj N) (ahG N) (ale N)
theorem apm (N:Nat):ab Pg 212 (XR (UW N)):=abN N _ _ _ _ _ _ _ _ _ (abv N) (apx N) (ahO N) (abp N) (Uw N) (abu N) (aqO N) (QU N) (ahM N)
theorem apR (N:Nat):ab Pg 193 (Ya (ad9 N)):=acp N _ _ (apK N) (apm N)
theorem nl (N:Nat):ab Pg 160 (dp (bI N)):=sq N _ (apR N)
theorem ap7 (N:Nat):ab Pg 214 (Yi (aed N)):=acM N
theorem ap8 (N:Nat):ab Pg 194 (Yj (aee N)):=acN N _ (ap7 N)
theorem nn (N:Nat):ab Pg 161 (dr (bJ N)):=sv N _ (ap8 N)
theorem qF (N:Nat):ab Pg 133 (gN (ep N)):=oF N _ _ _ _ (kb N) (nl N) (nn N) (lD N)
theorem aqi (N:Nat):ab Pg 198 (Yr (aej N)):=ac0 N _ _ (ak9 N) (aqE N)
theorem Es (N:Nat):ab Pg 163 (ms (gw N)):=AF N _ (aqi N)
theorem aqL (N:Nat):ab Pg 216 (ag0 (aer N)):=aiD N _ _ _ _ (ahO N) (abp N) (Uw N) (ahM N)
theorem apQ (N:Nat):ab Pg 199 (X_ (ad8 N)):=aco N _ _ (abv N) (aqL N)
theorem uZ (N:Nat):ab Pg 164 (gD (cA N)):=sr N _ (apQ N)
theorem apP (N:Nat):ab Pg 215 (X9 (ad7 N)):=acn N _ _ (abv N) (aqL N)
theorem uo (N:Nat):ab Pg 197 (gf (gk N)):=ri N _ (apP N)
theorem apI (N:Nat):ab Pg 212 (X2 (Pf N)):=acd N _ _ _ _ _ _ _ _ (abv N) (ahO N) (abp N) (Uw N) (abu N) (aqO N) (QU N) (ahM N)
theorem u7 (N:Nat):ab Pg 196 (gE (gJ N)):=su N _ (apI N)
theorem vN (N:Nat):ab Pg 195 (gX (hK N)):=tH N
theorem vM (N:Nat):ab Pg 162 (gW (cK N)):=tF N _ _ _ _ (kb N) (uo N) (u7 N) (vN N)
theorem rh (N:Nat):ab Pg 134 (ie (ik N)):=pq N _ _ _ _ _ _ (kb N) (nn N) (Es N) (uZ N) (nl N) (vM N)
theorem uY (N:Nat):ab Pg 118 (gC (gI N)):=so N _ _ _ (lD N) (qF N) (rh N)
theorem B3 (N:Nat):ab Pg 100 (nM (kM N)):=xQ N _ _ (AD N) (uY N)
theorem uM (N:Nat):ab Pg 73 (lz (jt N)):=yU N _ (B3 N)
theorem oC (N:Nat):ab Pg 32 (gM (gR N)):=Db N _ _ _ _ (ahI N) (ahJ N) (arA N) (uM N)
theorem aqc (N:Nat):ab Pg 113 (Yn (aeh N)):=acT N
theorem ap3 (N:Nat):ab Pg 112 (Yg (aec N)):=acH N
theorem apG (N:Nat):ab Pg 96 (Tj (ad4 N)):=ab_ N _ _ _ (ahI N) (aqc N) (ap3 N)
theorem apF (N:Nat):ab Pg 97 (Ti (ad3 N)):=ab9 N
theorem ap1 (N:Nat):ab Pg 70 (Yf (aeb N)):=acF N _ _ _ (apG N) (ak6 N) (apF N)
theorem Iz (N:Nat):ab Pg 30 (oq (oY N)):=Dc N _ _ (oC N) (ap1 N)
theorem aqq (N:Nat):ab Pg 101 (Yw (Vm N)):=ac6 N
theorem alf (N:Nat):ab Pg 102 (TD (Pn N)):=acZ N _ (abt N)
theorem alc (N:Nat):ab Pg 94 (MZ (Li N)):=acy N _ (alf N)
theorem ap9 (N:Nat):ab Pg 95 (Yk (aef N)):=acP N
theorem aqp (N:Nat):ab Pg 69 (Yv (Vl N)):=ac5 N _ _ (alc N) (ap9 N)
theorem aqd (N:Nat):ab Pg 29 (Yo (aei N)):=ahV N _ (aqp N)
theorem ak4 (N:Nat):ab Pg 78 (SY (O_ N)):=abE N _ (aqd N)
theorem ala (N:Nat):ab Pg 84 (MY (Pj N)):=acv N _ _ (aqq N) (ak4 N)
theorem aqj (N:Nat):ab Pg 83 (Ys (aek N)):=ac1 N _ (ala N)
theorem aqH (N:Nat):ab Pg 55 (Wh (aep N)):=ais N
theorem ap4 (N:Nat):ab Pg 85 (Tv (Vc N)):=acI N _ (alf N)
theorem art (N:Nat):ab Pg 49 (amc (ajr N)):=aij N _ _ _ (ala N) (aqH N) (ap4 N)
theorem aqt (N:Nat):ab Pg 66 (Yz (aem N)):=ac9 N _ _ _ (aqj N) (ak4 N) (art N)
theorem aqo (N:Nat):ab Pg 201 (TG (Jo N)):=ac4 N
theorem aql (N:Nat):ab Pg 170 (Yt (Vj N)):=ac2 N _ _ (alc N) (aqo N)
theorem gQ7 (N:Nat):ab Pg 150 (FQ7 (sQ7 N)):=anq N
theorem abo (N:Nat):ab Pg 202 (Kj (Lh N)):=acg N _ (gQ7 N)
theorem Ux (N:Nat):ab Pg 150 (Kk (FP N)):=acJ N
theorem Uv (N:Nat):ab Pg 140 (GA (Jj N)):=abK N _ (Ux N)
theorem apJ (N:Nat):ab Pg 171 (X3 (Ph N)):=acf N _ _ (abo N) (Uv N)
theorem ap_ (N:Nat):ab Pg 140 (Yl (aeg N)):=acQ N _ (gQ7 N)
theorem ap5 (N:Nat):ab Pg 172 (Yh (Vd N)):=acK N _ (ap_ N)
theorem aqC (N:Nat):ab Pg 139 (YG (Vu N)):=adj N _ _ _ (aql N) (apJ N) (ap5 N)
theorem aqv (N:Nat):ab Pg 181 (YB (Vq N)):=adb N _ (gQ7 N)
theorem ak8 (N:Nat):ab Pg 168 (Tl (Pe N)):=acb N _ _ (aqv N) (Uv N)
theorem apq (N:Nat):ab Pg 166 (XT (UX N)):=abT N _ (ak8 N)
theorem Oy (N:Nat):ab Pg 143 (CD (qX N)):=abQ N
theorem apw (N:Nat):ab Pg 140 (Td (FM N)):=abY N _ (Ux N)
theorem aqM (N:Nat):ab Pg 140 (Wi (ES N)):=aiE N _ (Ux N)
theorem aru (N:Nat):ab Pg 174 (agR (ajs N)):=ail N
theorem apt (N:Nat):ab Pg 144 (Wa (DF N)):=ahS N _ (aru N)
theorem ani (N:Nat):ab Pg 145 (M_ (Cm N)):=aiG N _ (gQ7 N)
theorem ak_ (N:Nat):ab Pg 175 (Tm (Pi N)):=acq N
theorem ana (N:Nat):ab Pg 146 (M4 (AQ N)):=ahY N _ (ak_ N)
theorem abm (N:Nat):ab Pg 148 (GB (wh N)):=ahR N
theorem apU (N:Nat):ab Pg 177 (To (Jl N)):=acu N _ (ani N)
theorem apH (N:Nat):ab Pg 176 (Tk (Jk N)):=aca N
theorem arK (N:Nat):ab Pg 179 (ag6 (RX N)):=aiQ N _ (gQ7 N)
theorem arj (N:Nat):ab Pg 180 (agI (Xq N)):=ahT N _ (ak_ N)
theorem arn (N:Nat):ab Pg 181 (agM (Xs N)):=ah7 N _ (gQ7 N)
theorem arq (N:Nat):ab Pg 182 (agO (Xt N)):=aid N
theorem arr (N:Nat):ab Pg 183 (agP (Xu N)):=aie N
theorem arL (N:Nat):ab Pg 150 (ag7 (Xy N)):=aiR N
theorem ary (N:Nat):ab Pg 145 (agV (Xv N)):=aip N _ (gQ7 N)
theorem ang (N:Nat):ab Pg 149 (M9 (vq N)):=aiu N _ _ _ _ _ _ _ _ _ (abm N) (arK N) (gQ7 N) (arj N) (arn N) (arq N) (arr N) (arL N) (ary N)
theorem Ox (N:Nat):ab Pg 128 (GC (DD N)):=abP N _ (gQ7 N)
theorem ald (N:Nat):ab Pg 204 (Tw (Pk N)):=acO N _ (gQ7 N)
theorem aqh (N:Nat):ab Pg 205 (Yq (Vi N)):=acY N _ _ _ (abo N) (Ox N) (ald N)
theorem ap2 (N:Nat):ab Pg 178 (Tu (DH N)):=acG N _ (aqh N)
theorem aqN (N:Nat):ab Pg 147 (Wj (Gk N)):=aiL N _ _ _ _ _ _ (abm N) (ana N) (apU N) (apH N) (ang N) (ap2 N)
theorem ahK (N:Nat):ab Pg 127 (We (RN N)):=aia N _ _ _ _ _ _ _ _ _ (apw N) (Oy N) (aqM N) (apt N) (ani N) (ana N) (aqN N) (abm N) (ang N)
theorem apb (N:Nat):ab Pg 165 (XQ (UT N)):=aby N _ _ (Oy N) (ahK N)
theorem apO (N:Nat):ab Pg 200 (X8 (ad6 N)):=acl N _ _ (abo N) (Uv N)
theorem aqg (N:Nat):ab Pg 169 (Yp (Pm N)):=acX N _ (apO N)
theorem arE (N:Nat):ab Pg 167 (ame (an7 N)):=aiI N _ (ahK N)
theorem apB (N:Nat):ab Pg 138 (X0 (ad2 N)):=ab3 N _ _ _ _ _ (apq N) (apb N) (aqg N) (ak8 N) (arE N)
theorem aqa (N:Nat):ab Pg 121 (Tx (Vf N)):=acR N _ _ (aqC N) (apB N)
theorem aqm (N:Nat):ab Pg 106 (Yu (Vk N)):=ac3 N _ (aqa N)
theorem aqs (N:Nat):ab Pg 92 (Yy (ael N)):=ac8 N _ (aqm N)
theorem apZ (N:Nat):ab Pg 122 (Tt (Vb N)):=acC N
theorem apT (N:Nat):ab Pg 129 (Tn (U9 N)):=acs N _ (Oy N)
theorem ap0 (N:Nat):ab Pg 140 (Ye (aea N)):=acE N _ (gQ7 N)
theorem apW (N:Nat):ab Pg 140 (Yd (ad_ N)):=acz N _ (gQ7 N)
theorem apf (N:Nat):ab Pg 123 (SX (UU N)):=abD N _ _ _ (apT N) (ap0 N) (apW N)
theorem arp (N:Nat):ab Pg 107 (agN (RO N)):=aib N _ _ (apZ N) (apf N)
theorem aqF (N:Nat):ab Pg 108 (Wc (Ps N)):=ah3 N
theorem aqB (N:Nat):ab Pg 124 (YF (aen N)):=adi N
theorem arI (N:Nat):ab Pg 109 (ag3 (RW N)):=aiN N _ (aqB N)
theorem ahH (N:Nat):ab Pg 129 (PX (RK N)):=ah4 N _ (Oy N)
theorem ark (N:Nat):ab Pg 111 (agJ (RI N)):=ahW N _ _ _ (ahH N) (Ox N) (ahK N)
theorem ars (N:Nat):ab Pg 126 (agQ (ajq N)):=aig N _ _ _ (Ox N) (ahH N) (ahK N)
theorem apA (N:Nat):ab Pg 141 (XZ (ad1 N)):=ab2 N _ _ (ahH N) (Ox N)
theorem aqw (N:Nat):ab Pg 203 (YC (Vr N)):=adc N _ (gQ7 N)
theorem apM (N:Nat):ab Pg 173 (X6 (U7 N)):=acj N _ _ _ _ (aqw N) (Uv N) (abm N) (ald N)
theorem apL (N:Nat):ab Pg 142 (X5 (U6 N)):=aci N _ (apM N)
theorem ape (N:Nat):ab Pg 140 (SW (FL N)):=abC N _ (Ux N)
theorem aps (N:Nat):ab Pg 127 (XU (UY N)):=abV N _ _ _ _ _ _ _ _ _ (ape N) (Oy N) (aqM N) (apt N) (ani N) (ana N) (aqN N) (abm N) (ang N)
theorem arx (N:Nat):ab Pg 125 (agU (ajt N)):=aio N _ _ _ _ _ (apA N) (ahH N) (Ox N) (apL N) (aps N)
theorem arm (N:Nat):ab Pg 110 (agL (RJ N)):=ah2 N _ _ _ (aqF N) (ars N) (arx N)
theorem apN (N:Nat):ab Pg 93 (X7 (ad5 N)):=ack N _ _ _ _ _ (arp N) (aqF N) (arI N) (ark N) (arm N)
theorem apS (N:Nat):ab Pg 67 (Yb (U8 N)):=acr N _ _ (aqs N) (apN N)
theorem ap6 (N:Nat):ab Pg 24 (Wb (Xr N)):=ahU N _ _ (aqt N) (apS N)
theorem arl (N:Nat):ab Pg 54 (agK (ajp N)):=ahX N _ (aqd N)
theorem aqe (N:Nat):ab Pg 31 (TB (Vh N)):=acV N _ _ _ (ap6 N) (aqH N) (arl N)
theorem gQ3 (N:Nat):ab Pg 13 (FQ3 (sQ3 N)):=ann N _ (abt N)
theorem J0 (N:Nat):ab Pg 76 (qk (Bg N)):=Et N _ (ahJ N)
theorem LP (N:Nat):ab Pg 60 (r_ (DK N)):=F5 N
theorem ahP (N:Nat):ab Pg 105 (Lv (Gx N)):=akQ N (aqD N)
theorem abq (N:Nat):ab Pg 91 (M3 (Ve N)):=acL N _ (ahP N)
theorem ak3 (N:Nat):ab Pg 64 (Kf (adV N)):=abB N _ (abq N)
theorem apo (N:Nat):ab Pg 79 (MW (alu N)):=abR N _ (ak3 N)
theorem apk (N:Nat):ab Pg 59 (MV (alt N)):=abL N _ _ (apo N) (ak3 N)
theorem gQ6 (N:Nat):ab Pg 64 (FQ6 (sQ6 N)):=anp N _ (abq N)
theorem aqG (N:Nat):ab Pg 79 (Wg (an6 N)):=aik N _ (gQ6 N)
theorem arM (N:Nat):ab Pg 59 (YO (aqX N)):=aiS N _ _ (aqG N) (gQ6 N)
theorem arG (N:Nat):ab Pg 59 (YN (aqW N)):=aiK N _ _ (aqG N) (gQ6 N)
theorem apc (N:Nat):ab Pg 77 (MU (alp N)):=abz N
theorem Er (N:Nat):ab Pg 37 (mq (wi N)):=AE N _ _ _ _ _ _ _ _ (oC N) (J0 N) (LP N) (apk N) (arM N) (arG N) (gQ6 N) (apc N)
theorem gQ2 (N:Nat):ab Pg 64 (FQ2 (sQ2 N)):=anm N _ (abq N)
theorem gQ1 (N:Nat):ab Pg 79 (FQ1 (sQ1 N)):=anl N _ (gQ2 N)
theorem sm (N:Nat):ab Pg 42 (fa (lK N)):=pY N
theorem yS (N:Nat):ab Pg 60 (l5 (tW N)):=Dd N
theorem LO (N:Nat):ab Pg 90 (rZ (DJ N)):=F4 N
theorem aro (N:Nat):ab Pg 59 (YI (aqV N)):=ah9 N _ _ (gQ1 N) (gQ2 N)
theorem rg (N:Nat):ab Pg 61 (eJ (k8 N)):=pp N _ _ _ (yS N) (LO N) (aro N)
theorem apd (N:Nat):ab Pg 59 (SV (alq N)):=abA N _ _ (gQ1 N) (gQ2 N)
theorem kE (N:Nat):ab Pg 80 (bG (fT N)):=jO N _ _ _ _ (yS N) (apd N) (gQ1 N) (gQ2 N)
theorem oD (N:Nat):ab Pg 62 (dy (js N)):=no N _ (kE N)
theorem pX (N:Nat):ab Pg 43 (dT (kg N)):=oc N _ _ _ _ (gQ1 N) (gQ2 N) (rg N) (oD N)
theorem apC (N:Nat):ab Pg 77 (Tf (alv N)):=ab4 N
theorem qE (N:Nat):ab Pg 65 (d9 (kv N)):=oE N _ _ (apC N) (uM N)
theorem C_ (N:Nat):ab Pg 41 (ot (uS N)):=yV N _ _ _ _ _ _ _ _ (Er N) (ahJ N) (gQ6 N) (gQ1 N) (gQ2 N) (sm N) (pX N) (qE N)
theorem F3 (N:Nat):ab Pg 14 (ra (xI N)):=B5 N _ (C_ N)
theorem gQ0 (N:Nat):ab Pg 20 (FQ0 (sQ0 N)):=ank N _ _ (F3 N) (oC N)
theorem aq9 (N:Nat) (x:List Int) (rows cols:Int) (p:List Int) (hG:adX N x rows cols p (λb=>b)=true):OkC Pg 6 (Gy.args [.ints x,.int rows,.int cols,.ints p]) [] (.bool true) []:=
 akP N _ _ _ _ _ _ _ (gQ4 N) (Iz N) (aqe N) (oC N) (ap6 N) (gQ3 N) (gQ0 N) x rows cols p hG
end Go.Proofs.YteifemaagdeomaaGreatDoor
end
