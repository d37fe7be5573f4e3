/-
  A part of the proof of PromiseBytes: lemmas, in short letters, printed by a program out of the longer texts; conditions: those that each lemma names.
-/
import Derived.Test.YtalmddmghdinkaaGreatDoorT
set_option linter.all false
set_option linter.deprecated false
noncomputable section
namespace Go.Vm.X
open Go Go.Vm Go.Proofs.bt
def PM (m n:Nat) (r:V):Prop:= ∃p q,VR p q∧CR p q r∧p.natAbs≤m∧q≤n
theorem PM.az {m n:Nat} {r:V} (h:PM m n r):X.az r=true:=by
 obtain ⟨p,q,_,h,_⟩:=h;exact h.az
theorem exq {p:Int} {G:Nat} (hG:0<G) (hd:G ∣ p.natAbs):(p / (G:Int)).natAbs=p.natAbs / G∧(p / (G:Int)<0↔p<0):=by
 obtain ⟨k,hk⟩:=hd
 have hq:p.natAbs / G=k:=by rw [hk,Nat.mul_div_cancel_left _ hG]
 rcases (show 0≤p∨p<0 by omega) with h|h
 ·have hp:p=(k:Int)*G:=by rw [←Int.natCast_mul,Nat.mul_comm,←hk];omega
  have:p / (G:Int)=k:=by rw [hp];exact Int.mul_ediv_cancel _ (by omega)
  rw [this,hq];omega
 ·have hp:p=(-(k:Int))*G:=by rw [Int.neg_mul,←Int.natCast_mul,Nat.mul_comm,←hk];omega
  have h1:p / (G:Int)= -(k:Int):=by
   have:(-(k:Int))*G / (G:Int)= -(k:Int):=Int.mul_ediv_cancel _ (by omega)
   rw [←hp] at this;exact this
  have vE:k≠0:=by rintro rfl;rw [Nat.mul_zero] at hk;omega
  rw [h1,hq];omega
theorem zE (x y z w a b c d:V):aI [x,y,z,w] [(0,2,.agg [a,b]),(2,2,.agg [c,d])]=some (.agg [a,b,c,d]):=rfl
theorem Dp (x y z w a b:V):aI [x,y,z,w] [(0,2,.agg [a,b])]=some (.agg [a,b,z,w]):=rfl
theorem Wq {p q:Int} {a b:V} (ha:CV p a) (hb:CV q b) (hl:(nd p.natAbs).length≤1000000) (fg:(nd q.natAbs).length≤1000000):eL cx 66 [a,b] (PM p.natAbs (max 1 q.natAbs)):=fun s hs=>
 (E66 (aE (by decide))).fD 0 (by
  have lj:=ha
  have gY:=hb
  obtain ⟨d,rfl,hd⟩:=ha
  obtain ⟨e,rfl,he⟩:=hb
  show bW s _ (Tm cx 0 (.agg [.bool (decide (p<0)),d]) (.agg [.bool (decide (q<0)),e]) s)
  unfold Tm
  obtain ⟨s1,e1,b1,l1,k1,n1⟩:=ca [.bool (decide (p<0)),d] 43 (Loc.refl hs)
  obtain ⟨s2,e2,b2,l2,k2,n2⟩:=ca [.bool (decide (q<0)),e] 43 l1
  obtain ⟨s3,e3,b3,l3,k3,n3⟩:=ca [.bool false,.ah,.bool false,.ah] 45 l2
  have eX:=(b1.kp k2 (by simp)).kp k3 (by simp)
  have kr:=b2.kp k3 (by simp)
  by_cases hz:q=0∨p=0
  ·have hres:bW s (PM p.natAbs (max 1 q.natAbs)) (af (aq s3 (aB 4 (.ptr s2.n 0) (.agg [.bool false,.ah,.bool false,.ah]) (aw s3))) fun _ s'=>aC s s' [aD 4 s' (.ptr s2.n 0)]):=
    ⟨_,⟨0,1,⟨by omega,rfl⟩,⟨.ah,.ah,rfl,by rw [show (0:Int).natAbs=0 from rfl,cG];exact Is.nil _,Is.nil _⟩,by simp,by omega⟩,gz b3 l3 hs rfl rfl rfl⟩
   by_cases hq:q=0
   ·have h0:(nd q.natAbs).length=0:=by rw [hq,show (0:Int).natAbs=0 from rfl,cG];rfl
    simp (disch:=omega) only [jU,st,si,dt,e1,e2,e3,cS,eX.r2,kr.r2,he.len,eB]
    exact hres
   ·have h0:(nd p.natAbs).length=0:=by rw [show p=0 by omega,show (0:Int).natAbs=0 from rfl,cG];rfl
    have h1: ¬(nd q.natAbs).length=0:=fun h=>by have:=I6 (List.length_eq_zero_iff.1 h);omega
    simp (disch:=omega) only [jU,st,si,dt,e1,e2,e3,cS,eX.r2,kr.r2,hd.len,he.len,eB]
    exact hres
  ·have hq: ¬(nd q.natAbs).length=0:=fun h=>by have:=I6 (List.length_eq_zero_iff.1 h);omega
   have hp: ¬(nd p.natAbs).length=0:=fun h=>by have:=I6 (List.length_eq_zero_iff.1 h);omega
   obtain ⟨g,hg,f1⟩:=aU (dr:=false) (st:=true) (OV lj gY hl fg) (cC lj.az gY.az) l3.wm
   have hGp:Nat.gcd p.natAbs q.natAbs ∣ p.natAbs:=Nat.gcd_dvd_left _ _
   have hGq:Nat.gcd p.natAbs q.natAbs ∣ q.natAbs:=Nat.gcd_dvd_right _ _
   have TW:0<Nat.gcd p.natAbs q.natAbs:=Nat.gcd_pos_of_pos_left _ (by omega)
   have Xw:=Nat.coprime_div_gcd_div_gcd (m:=p.natAbs) (n:=q.natAbs) TW
   have hGl:(nd (Nat.gcd p.natAbs q.natAbs)).length≤1000000:=by have:=fB (Nat.le_of_dvd (by omega) hGp);omega
   generalize Nat.gcd p.natAbs q.natAbs=G at*
   obtain ⟨Cg,M4⟩:=exq TW hGp
   obtain ⟨nT,HE⟩:=exq TW hGq
   obtain ⟨dg,rfl,KA⟩:=CV.nat hg
   obtain ⟨s4,f2,b4,l4,k4,n4⟩:=cO (cs:= [.bool false,.ah]) (l:= [.bool false,dg]) (t:=43) (z:=2) l3 rfl rfl (ff KA).1
   have Il:=eX.kp k4 (by simp)
   have TC:=kr.kp k4 (by simp)
   have b3k:=b3.kp k4 (by simp)
   have hGn:((G:Nat):Int)≠0:=by omega
   have PB:(nd ((G:Nat):Int).natAbs).length≤1000000:=by rw [Int.natAbs_natCast];exact hGl
   obtain ⟨r1,⟨u1,w1,rfl,hu1,BC⟩,f3⟩:=aU (dr:=false) (st:=true) (JK lj hg hGn hl PB) (cC lj.az hg.az) l4.wm
   obtain ⟨TL,rfl,KC⟩:=hu1
   obtain ⟨dw1,rfl,XB⟩:=BC
   obtain ⟨t1,f4,c1,m1,j1,_⟩:=ca [.bool false,.ah] 43 l4
   obtain ⟨t2,f5,c2,m2,j2,_⟩:=ca [.bool false,.ah] 43 m1
   have h4:=b4.hi
   have h3:=b3.hi
   have ll:=c1.hi
   obtain ⟨t3,f6,c3,m3,j3,_⟩:=(c1.kp j2 (by simp)).put (l:= [.bool (decide (p / (G:Int)<0)),TL]) (z:=2) m2 rfl rfl (nS KC).2
   obtain ⟨t4,f7,c4,m4,j4,_⟩:=(c2.kp j3 (by simp;omega)).put (l:= [.bool (decide (p % (G:Int)<0)),dw1]) (z:=2) m3 rfl rfl (nS XB).2
   have MO:=c3.kp j4 (by simp;omega)
   have q2:=(((TC.kp j1 (by simp)).kp j2 (by simp)).kp j3 (by have:=b2.hi;simp;omega)).kp j4 (by have:=b2.hi;simp;omega)
   have q3:=(((b3k.kp j1 (by simp)).kp j2 (by simp)).kp j3 (by simp;omega)).kp j4 (by simp;omega)
   have q4:=(((b4.kp j1 (by simp)).kp j2 (by simp)).kp j3 (by simp;omega)).kp j4 (by simp;omega)
   obtain ⟨r2,⟨u2,w2,rfl,hu2,vG⟩,f8⟩:=aU (dr:=false) (st:=true) (JK gY hg hGn fg PB) (cC gY.az hg.az) m4.wm
   obtain ⟨TM,rfl,Hv⟩:=hu2
   obtain ⟨dw2,rfl,XC⟩:=vG
   obtain ⟨t5,f9,c5,m5,j5,_⟩:=ca [.bool false,.ah] 43 m4
   obtain ⟨t6,f10,c6,m6,j6,_⟩:=ca [.bool false,.ah] 43 m5
   have hc5:=c5.hi
   have hc3:=MO.hi
   have QA:=q3.hi
   obtain ⟨t7,f11,c7,m7,j7,_⟩:=(c5.kp j6 (by simp)).put (l:= [.bool (decide (q / (G:Int)<0)),TM]) (z:=2) m6 rfl rfl (nS Hv).2
   obtain ⟨t8,f12,c8,m8,j8,_⟩:=(c6.kp j7 (by simp;omega)).put (l:= [.bool (decide (q % (G:Int)<0)),dw2]) (z:=2) m7 rfl rfl (nS XC).2
   have MP:=c7.kp j8 (by simp;omega)
   have p3:=(((MO.kp j5 (by simp)).kp j6 (by simp)).kp j7 (by simp;omega)).kp j8 (by simp;omega)
   have pr:=(((q3.kp j5 (by simp)).kp j6 (by simp)).kp j7 (by simp;omega)).kp j8 (by simp;omega)
   have fin: ∀(t:S) (P:Int) (Q:Nat) (dx dy:V),Loc s t→dX s t s4.n [.bool (decide (P<0)),dx] 43 false→dX s t t4.n [.bool false,dy] 43 false→dX s t s2.n [.bool false,.ah,.bool false,.ah] 45 false→
     Is .i64 dx (nd P.natAbs)→Is .i64 dy (nd Q)→P.natAbs=p.natAbs / G→Q=q.natAbs / G→
     au cx false false (.fn 115 [] []) [.agg [.bool false,dy]] t=some (.bool (decide (Q=1)),t)∧
     bW s (PM p.natAbs (max 1 q.natAbs)) (if Q=1 then (af (aq t (aB 4 (.ptr s2.n 0) (.agg [.bool (decide (P<0)),dx,.bool false,.ah]) (aw t))) fun _ s'=>aC s s' [aD 4 s' (.ptr s2.n 0)]) else
      (af (aq t (aB 4 (.ptr s2.n 0) (.agg [.bool (decide (P<0)),dx,.bool false,dy]) (aw t))) fun _ s'=>aC s s' [aD 4 s' (.ptr s2.n 0)])):=by
    intro t P Q dx dy hlt x3 x5 xr oO mL hP hQ
    have WX:(nd Q).length≤1000000:=by have:=fB (Nat.div_le_self q.natAbs G);rw [hQ];omega
    have g1:=bO (dr:=false) (st:=false) (JL (neg:=false) (l:=nd Q) ⟨dy,rfl,mL⟩ (by omega)) (cU (ff mL).2) hlt.wm
    rw [oC] at g1
    refine ⟨g1,?_⟩
    have hQ0:0<Q:=by rw [hQ];exact Nat.div_pos (Nat.le_of_dvd (by omega) hGq) TW
    have hV:VR P Q:=⟨hQ0,by rw [hP,hQ];exact Xw⟩
    have PF:P.natAbs≤p.natAbs:=by rw [hP];exact Nat.div_le_self _ _
    have PH:Q≤max 1 q.natAbs:=by have:=Nat.div_le_self q.natAbs G;omega
    split
    ·rename_i h1
     refine ⟨_,⟨P,Q,hV,⟨dx,.ah,rfl,oO,by unfold qd;rw [if_pos h1];exact Is.nil _⟩,PF,PH⟩,gz xr hlt hs rfl rfl (RR.atoms oO (Is.nil _)).2⟩
    ·rename_i h1
     refine ⟨_,⟨P,Q,hV,⟨dx,dy,rfl,oO,by unfold qd;rw [if_neg h1];exact mL⟩,PF,PH⟩,gz xr hlt hs rfl rfl (RR.atoms oO mL).2⟩
   have Q2: ∀(Q:Nat) (A B:bB),ax (.bool (decide (Q=1))) A B=if Q=1 then A else B:=fun Q A B=>by
    by_cases h:Q=1
    ·rw [MQ _ _ h,if_pos h]
    ·rw [TG _ _ h,if_neg h]
   simp (disch:=omega) only [jU,st,si,dt,e1,e2,e3,cS,eX.r2,kr.r2,hd.len,he.len,f1]
   rw [f2]
   simp (disch:=omega) only [jU,st,Il.r2,b4.r2,f3,f4,f5,f6,f7,q2.r2,q4.r2,f8,f9,f10,f11,f12,cS,MP.r2]
   by_cases hn:q / (G:Int)<0
   ·have P3:CV (p / (G:Int)) (.agg [.bool (decide (p / (G:Int)<0)),TL]):=⟨TL,rfl,KC⟩
    have P4:CV (q / (G:Int)) (.agg [.bool (decide (q / (G:Int)<0)),TM]):=⟨TM,rfl,Hv⟩
    have Bw:=fB (Nat.div_le_self p.natAbs G)
    have QC:=fB (Nat.div_le_self q.natAbs G)
    obtain ⟨v1,Yk,g1⟩:=aU (dr:=false) (st:=true) (OW P3 (by rw [Cg];omega)) (cU P3.az) m8.wm
    obtain ⟨dv1,rfl,Qa⟩:=Yk
    obtain ⟨t9,g2,y3,m9,j9,_⟩:=p3.put (l:= [.bool (decide (-(p / (G:Int))<0)),dv1]) (z:=2) m8 rfl rfl (nS Qa).2
    have Uf:=p3.hi
    have hpr:=pr.hi
    have hc7:=MP.hi
    have y7:=MP.kp j9 (by simp;omega)
    obtain ⟨v2,Lm,g3⟩:=aU (dr:=false) (st:=true) (OW P4 (by rw [nT];omega)) (cU P4.az) m9.wm
    obtain ⟨dv2,rfl,KD⟩:=Lm
    have WW:decide (-(q / (G:Int))<0)=false:=decide_eq_false (by omega)
    rw [WW] at g3
    obtain ⟨t10,g4,y8,m10,j10,_⟩:=y7.put (l:= [.bool false,dv2]) (z:=2) m9 rfl rfl (RV.atoms KD).1
    have y3':=y3.kp j10 (by simp;omega)
    obtain ⟨g5,g6⟩:=fin t10 (-(p / (G:Int))) (q.natAbs / G) dv1 dv2 m10 y3' y8 ((pr.kp j9 (by simp;omega)).kp j10 (by simp;omega)) Qa (by rw [Int.natAbs_neg,nT] at KD;exact KD) (by rw [Int.natAbs_neg,Cg]) rfl
    simp (disch:=omega) only [jU,st,p3.r2,g1,g2,y7.r2,g3,g4,y8.r2,y3'.r2,g5,zE,Dp,Q2]
    exact g6
   ·have WW:decide (q / (G:Int)<0)=false:=decide_eq_false hn
    rw [WW] at MP ⊢
    obtain ⟨g5,g6⟩:=fin t8 (p / (G:Int)) (q.natAbs / G) TL TM m8 p3 MP pr KC (by rw [nT] at Hv;exact Hv) Cg rfl
    simp (disch:=omega) only [jU,st,MP.r2,p3.r2,g5,zE,Dp,Q2]
    exact g6) (by omega)
theorem c28 {p q:Int} (hp:fk p) (hq:fk q):eL cx 28 [.int .i64 p,.int .i64 q] (PM p.natAbs (max 1 q.natAbs)):=fun s hs=>
 (E28 (aE (by decide))).fD 0 (by
  show bW s _ (Ta cx 0 (.int .i64 p) (.int .i64 q) s)
  unfold Ta
  have h1:=hp.1
  have h2:=hp.2
  have h3:=hq.1
  have h4:=hq.2
  have yD:=mZ (x:=p.natAbs) (n:=3) (by omega)
  have hlq:=mZ (x:=q.natAbs) (n:=3) (by omega)
  obtain ⟨s1,e1,b1,l1,k1,n1⟩:=ca [.bool false,.ah,.bool false,.ah] 45 (Loc.refl hs)
  obtain ⟨a,ha,f1⟩:=aU (dr:=false) (st:=true) (JQ p hp) (cU rfl) l1.wm
  obtain ⟨b,hb,f2⟩:=aU (dr:=false) (st:=true) (JQ q hq) (cU rfl) l1.wm
  obtain ⟨r,hr,f3⟩:=aU (dr:=false) (st:=true) (Wq ha hb (by omega) (by omega)) (cC ha.az hb.az) l1.wm
  simp (disch:=omega) only [jU,st,e1,f1,f2,f3]
  obtain ⟨P,Q,hV,hC,uA,qj⟩:=hr
  have FM:=hC
  obtain ⟨d,e,rfl,hd,he⟩:=hC
  exact ⟨_,⟨P,Q,hV,FM,uA,qj⟩,gz b1 l1 hs rfl rfl (RR.atoms hd he).2⟩) (by omega)
theorem gS:(∀(o:Option (V×S)) (s:S),fT (.bool true) true o s=o)∧(∀(o:Option (V×S)) (s:S),fT (.bool false) false o s=o)∧(∀(o:Option (V×S)) (s:S),fT (.bool true) false o s=some (.dQ [],s))∧(∀(o:Option (V×S)) (s:S),fT (.bool false) true o s=some (.dQ [],s))∧(∀(w:Bool) (o:Option (V×S)) (s:S),fT (.dQ []) w o s=some (.dQ [],s)):=
 ⟨fun _ _=>rfl,fun _ _=>rfl,fun _ _=>rfl,fun _ _=>rfl,fun _ _ _=>rfl⟩
theorem B8 (b:Nat):aJ 0 (.ptr b 2)=some (.ptr b 2)∧aJ 1 (.ptr b 2)=some (.ptr b 3):=⟨rfl,rfl⟩
def Cn (np:Bool) (lp:List Int) (nq:Bool) (lq:List Int):Bool:=sG np lp && (sG nq lq && (!nq && (!sR nq lq && (decide (lq.length=0) || decide (Nat.gcd (vb lp).toNat (vb lq).toNat=1)))))
theorem L5 {p:Int} {q:Nat} (h:VR p q):Cn (decide (p<0)) (nd p.natAbs) false (qd q)=true:=by
 unfold Cn
 rw [yH p]
 by_cases h1:q=1
 ·subst h1;rfl
 ·have hq:qd q=nd q:=by unfold qd;rw [if_neg h1]
  have hi:=yH (q:Int)
  rw [Int.natAbs_natCast,show decide ((q:Int)<0)=false from decide_eq_false (by omega)] at hi
  rw [hq,hi,oC,decide_eq_false h1,cn,cn,Int.toNat_natCast,Int.toNat_natCast,decide_eq_true (show Nat.gcd p.natAbs q=1 from h.2)]
  simp
theorem L6 {np nq:Bool} {lp lq:List Int} (h:Cn np lp nq lq=true): ∃p q,VR p q∧np=decide (p<0)∧lp=nd p.natAbs∧nq=false∧lq=qd q:=by
 unfold Cn at h
 simp only [Bool.and_eq_true,Bool.or_eq_true,Bool.not_eq_true',decide_eq_true_eq] at h
 obtain ⟨h1,h2,h3,h4,h5⟩:=h
 subst h3
 obtain ⟨_,_,a1,a2,a3,_⟩:=jF h1
 obtain ⟨_,_,b1,b2,b3,_⟩:=jF h2
 by_cases hz:lq.length=0
 ·refine ⟨fm np (vb lp),1,⟨by omega,Nat.gcd_one_right _⟩,a3.symm,by rw [a2,a1],rfl,?_⟩
  rw [List.length_eq_zero_iff.1 hz];rfl
 ·have hg:=h5.resolve_left hz
  have hne:(vb lq).toNat≠1:=by
   intro h6
   rw [←b1,h6,oC] at h4
   simp at h4
  have hq:qd (vb lq).toNat=lq:=by unfold qd;rw [if_neg hne,b1]
  have hpos:0<(vb lq).toNat:=by
   rcases (show (vb lq).toNat=0∨0<(vb lq).toNat by omega) with h6|h6
   ·rw [h6,cG] at b1;rw [←b1] at hz;exact absurd rfl hz
   ·exact h6
  exact ⟨fm np (vb lp),(vb lq).toNat,⟨hpos,by rw [a2];exact hg⟩,a3.symm,by rw [a2,a1],rfl,hq.symm⟩
theorem V3 {np nq:Bool} {lp lq:List Int} {a:V} (ha:RR np lp nq lq a) (hl:lp.length≤1000000) (fg:lq.length≤1000000):jK cx 111 [a] (.bool (Cn np lp nq lq)):=fun s hs=>
 (Nx (aE (by decide))).run 0 (by
  obtain ⟨d,e,rfl,hd,he⟩:=ha
  show Gd cx 0 (.agg [.bool np,d,.bool nq,e]) s=_
  unfold Gd
  obtain ⟨s1,e1,b1,l1,k1,n1⟩:=ca [.bool np,d,.bool nq,e] 45 (Loc.refl hs)
  have hP:RV np lp (.agg [.bool np,d]):=⟨d,rfl,hd⟩
  have hQ:RV nq lq (.agg [.bool nq,e]):=⟨e,rfl,he⟩
  have f1:=bO (dr:=false) (st:=false) (JO hP (by omega)) (cU hP.az) l1.wm
  have f2:=bO (dr:=false) (st:=false) (JO hQ (by omega)) (cU hQ.az) l1.wm
  have f3:=bO (dr:=false) (st:=false) (JL hQ (by omega)) (cU hQ.az) l1.wm
  unfold Cn
  cases h1:sG np lp with
  |false=>
   rw [h1] at f1
   simp (disch:=omega) only [jE,st,si,gS,dt,e1,cS,B8,b1.r4,f1,ea,Bool.not_false]
   exact aO rfl (by omega) l1.fx
  |true=>
   rw [h1] at f1
   cases h2:sG nq lq with
   |false=>
    rw [h2] at f2
    simp (disch:=omega) only [jE,st,si,gS,dt,e1,cS,B8,b1.r4,f1,f2,ea,Bool.not_false,Bool.not_true]
    exact aO rfl (by omega) l1.fx
   |true=>
    rw [h2] at f2
    cases nq with
    |true=>
     simp (disch:=omega) only [jE,st,si,gS,dt,e1,cS,B8,b1.r4,f1,f2,ea,Bool.not_true]
     exact aO rfl (by omega) l1.fx
    |false=>
     cases h3:sR false lq with
     |true=>
      rw [h3] at f3
      simp (disch:=omega) only [jE,st,si,gS,dt,e1,cS,B8,b1.r4,f1,f2,f3,ea,Bool.not_true]
      exact aO rfl (by omega) l1.fx
     |false=>
      rw [h3] at f3
      by_cases h4:lq.length=0
      ·simp (disch:=omega) only [jE,st,si,gS,dt,e1,cS,B8,b1.r4,f1,f2,f3,ea,Bool.not_true,he.len]
       rw [aO rfl (by omega) l1.fx,decide_eq_true h4];rfl
      ·have PE:=hP.cv h1
       have PG:=hQ.cv h2
       obtain ⟨_,_,a1,a2,a3,_⟩:=jF h1
       obtain ⟨_,_,c1,c2,c3,_⟩:=jF h2
       obtain ⟨g,hg,f4⟩:=aU (dr:=false) (st:=false) (OV PE PG (by rw [a2,a1];exact hl) (by rw [c2,c1];exact fg)) (cC PE.az PG.az) l1.wm
       rw [a2,c2] at hg
       obtain ⟨dg,rfl,KA⟩:=CV.nat hg
       have hgl:(nd (Nat.gcd (vb lp).toNat (vb lq).toNat)).length≤1000000:=by
        have HD:0<(vb lq).toNat:=by
         rcases (show (vb lq).toNat=0∨0<(vb lq).toNat by omega) with h6|h6
         ·rw [h6,cG] at c1;rw [←c1] at h4;exact absurd rfl h4
         ·exact h6
        have:=fB (Nat.le_of_dvd HD (Nat.gcd_dvd_right (vb lp).toNat (vb lq).toNat))
        rw [c1] at this;omega
       have f5:=bO (dr:=false) (st:=false) (JL (neg:=false) ⟨dg,rfl,KA⟩ (by omega)) (cU (ff KA).2) l1.wm
       rw [oC] at f5
       simp (disch:=omega) only [jE,st,si,gS,dt,e1,cS,B8,b1.r4,f1,f2,f3,ea,Bool.not_true,he.len,f4,f5]
       rw [aO rfl (by omega) l1.fx,decide_eq_false h4];rfl) (by omega)
theorem kH (X Y:Nat):(nd (X*Y)).length≤(nd X).length+(nd Y).length:=by
 refine mZ ?_
 have h1:=iS (cJ X)
 have h2:=iS (cJ Y)
 rw [cn,qV] at h1 h2
 rw [Nat.pow_add]
 have h3:X<1000000000 ^ (nd X).length:=by omega
 have h4:Y<1000000000 ^ (nd Y).length:=by omega
 calc X*Y≤X*1000000000 ^ (nd Y).length:=Nat.mul_le_mul_left _ (by omega)
  _<_:=Nat.mul_lt_mul_of_pos_right h3 (Nat.pow_pos (by omega))
theorem c78 {p p':Int} {q q':Nat} {a b:V} (ha:CR p q a) (hb:CR p' q' b) (hq:0<q) (rB:0<q') (hl:(nd p.natAbs).length≤1000000∧(nd q).length≤1000000) (fg:(nd p'.natAbs).length≤1000000∧(nd q').length≤1000000):
  jK cx 78 [a,b] (.int .i64 (jb (p*q') (p'*q))):=fun s hs=>
 (E78 (aE (by decide))).run 0 (by
  have lj:=ha
  have gY:=hb
  obtain ⟨d,e,rfl,hd,he⟩:=ha
  obtain ⟨d',e',rfl,gj,he'⟩:=hb
  show Ts cx 0 (.agg [.bool (decide (p<0)),d,.bool false,e]) (.agg [.bool (decide (p'<0)),d',.bool false,e']) s=_
  unfold Ts
  obtain ⟨s1,e1,b1,l1,k1,n1⟩:=ca [.bool (decide (p<0)),d,.bool false,e] 45 (Loc.refl hs)
  obtain ⟨s2,e2,b2,l2,k2,n2⟩:=ca [.bool (decide (p'<0)),d',.bool false,e'] 45 l1
  have eX:=b1.kp k2 (by simp)
  have hP:CV p (.agg [.bool (decide (p<0)),d]):=⟨d,rfl,hd⟩
  have ID:CV p' (.agg [.bool (decide (p'<0)),d']):=⟨d',rfl,gj⟩
  obtain ⟨u,hu,f1⟩:=aU (dr:=true) (st:=false) (Iq gY rB) (cU gY.az) l2.wm
  obtain ⟨u',xT,f2⟩:=aU (dr:=true) (st:=false) (Iq lj hq) (cU lj.az) l2.wm
  obtain ⟨w,hw,f3⟩:=aU (dr:=true) (st:=false) (Ip hP hu (by omega) (by rw [Int.natAbs_natCast];omega)) (cC hP.az hu.az) l2.wm
  obtain ⟨w',hw',f4⟩:=aU (dr:=true) (st:=false) (Ip ID xT (by omega) (by rw [Int.natAbs_natCast];omega)) (cC ID.az xT.az) l2.wm
  have m1:=kH p.natAbs q'
  have m2:=kH p'.natAbs q
  have f5:=bO (dr:=true) (st:=false) (OY hw hw' (by rw [Int.natAbs_mul,Int.natAbs_natCast];omega) (by rw [Int.natAbs_mul,Int.natAbs_natCast];omega)) (cC hw.az hw'.az) l2.wm
  simp (disch:=omega) only [jE,st,dt,e1,e2,cS,eX.r4,b2.r4,f1,f2,f3,f4,f5]
  rw [aO rfl (by omega) l2.fx]) (by omega)
theorem AW {s₀ s:S} {cs:List V} {t:Nat} {r:Reach} (hl:Loc s₀ s): ∃s' hi,dD r (some []) s (aT cs t (aw s))=some (.ptr s.n 0,s',lh r s.n hi [])∧dX s₀ s' s.n cs t false∧Loc s₀ s'∧Kp s s' []∧s'.n=s.n+1:=by
 obtain ⟨s',h1,h2,h3,h4,h5⟩:=ca cs t hl
 obtain ⟨u,h6,h7⟩:=Fq (r:=r) (w:=some []) h1
 refine ⟨s',u.n,?_,h2,h3,h4,h5⟩
 rw [h7]
 unfold lh
 congr 4
 cases Nat.blt u.wm s.n<;>rfl
theorem c33 {p p':Int} {q q':Nat} {a b:V} (ha:CR p q a) (hb:CR p' q' b) (hq:0<q) (rB:0<q') (hl:(nd p.natAbs).length≤100000∧(nd q).length≤100000) (fg:(nd p'.natAbs).length≤100000∧(nd q').length≤100000):
  eL cx 33 [a,b] (PM (p.natAbs*q'+p'.natAbs*q) (max 1 (q*q'))):=fun s hs=>
 (E33 (aE (by decide))).fD 0 (by
  have lj:=ha
  have gY:=hb
  obtain ⟨d,e,rfl,hd,he⟩:=ha
  obtain ⟨d',e',rfl,gj,he'⟩:=hb
  show bW s _ (Tc cx 0 (.agg [.bool (decide (p<0)),d,.bool false,e]) (.agg [.bool (decide (p'<0)),d',.bool false,e']) s)
  unfold Tc
  obtain ⟨s1,e1,b1,l1,k1,n1⟩:=ca [.bool (decide (p<0)),d,.bool false,e] 45 (Loc.refl hs)
  obtain ⟨s2,e2,b2,l2,k2,n2⟩:=ca [.bool (decide (p'<0)),d',.bool false,e'] 45 l1
  obtain ⟨s3,e3,b3,l3,k3,n3⟩:=ca [.bool false,.ah,.bool false,.ah] 45 l2
  have eX:=(b1.kp k2 (by simp)).kp k3 (by simp)
  have kr:=b2.kp k3 (by simp)
  have hP:CV p (.agg [.bool (decide (p<0)),d]):=⟨d,rfl,hd⟩
  have ID:CV p' (.agg [.bool (decide (p'<0)),d']):=⟨d',rfl,gj⟩
  have yB:=b1.hi
  have Hz:=b2.hi
  have Qe:=b3.hi
  obtain ⟨u,hu,f1⟩:=dM (Iq gY rB) (cU gY.az) l3.wm
  obtain ⟨x,hx,f2⟩:=dM (Ip hP hu (by omega) (by rw [Int.natAbs_natCast];omega)) (cC hP.az hu.az) l3.wm
  obtain ⟨dx,rfl,oO⟩:=hx
  obtain ⟨s4,hi4,f3,c4,l4,k4,n4⟩:=AW (cs:= [.bool false,.ah]) (t:=43) (r:=some []) l3
  obtain ⟨s5,f4,c5,l5,k5,n5⟩:=c4.mN (r:=some (ag.aF (.ptr s3.n 0))) (w:=some (ag.aF (.ptr s3.n 0))) (z:=2) l4 rfl rfl (nS oO).2
  simp (disch:=omega) only [jU,st,sf,dt,e1,e2,e3,cS,eX.r4,kr.r4,f1,f2,f3,f4]
  refine wU (vA (fl:= [_,_,_,_,_,_]) (b:=s3.n) 6 rfl (by decide) (by repeat' first|exact trivial|apply Qs.c0)) ?_
  have q1:=(eX.kp k4 (by simp)).kp k5 (by simp;omega)
  have q2:=(kr.kp k4 (by simp)).kp k5 (by simp;omega)
  have q3:=(b3.kp k4 (by simp)).kp k5 (by simp;omega)
  obtain ⟨u',xT,g1⟩:=dM (Iq lj hq) (cU lj.az) l5.wm
  obtain ⟨y,hy,g2⟩:=dM (Ip ID xT (by omega) (by rw [Int.natAbs_natCast];omega)) (cC ID.az xT.az) l5.wm
  obtain ⟨dy,rfl,mL⟩:=hy
  obtain ⟨s6,hi6,g3,c6,l6,k6,n6⟩:=AW (cs:= [.bool false,.ah]) (t:=43) (r:=some []) l5
  obtain ⟨s7,g4,c7,l7,k7,n7⟩:=c6.mN (r:=some (ag.aF (.ptr s5.n 0))) (w:=some (ag.aF (.ptr s5.n 0))) (z:=2) l6 rfl rfl (nS mL).2
  have hc5:=c5.hi
  have r1:=(q1.kp k6 (by simp)).kp k7 (by have:=q1.hi;simp;omega)
  have r2:=(q2.kp k6 (by simp)).kp k7 (by have:=q2.hi;simp;omega)
  have r3:=(q3.kp k6 (by simp)).kp k7 (by have:=q3.hi;simp;omega)
  have r5:=(c5.kp k6 (by simp)).kp k7 (by simp;omega)
  simp (disch:=omega) only [jU,st,sf,cS,q1.r4,q2.r4,g1,g2,g3,g4]
  refine wU (vA (fl:= [_,_,_,_,_,_]) (b:=s5.n) 6 rfl (by decide) (by repeat' first|exact trivial|apply Qs.c0)) ?_
  have hX:CV (p*(q':Int)) (.agg [.bool (decide (p*(q':Int)<0)),dx]):=⟨dx,rfl,oO⟩
  have hY:CV (p'*(q:Int)) (.agg [.bool (decide (p'*(q:Int)<0)),dy]):=⟨dy,rfl,mL⟩
  have m1:=kH p.natAbs q'
  have m2:=kH p'.natAbs q
  have m3:=kH q q'
  have aX:(p*(q':Int)).natAbs=p.natAbs*q':=by rw [Int.natAbs_mul,Int.natAbs_natCast]
  have aY:(p'*(q:Int)).natAbs=p'.natAbs*q:=by rw [Int.natAbs_mul,Int.natAbs_natCast]
  obtain ⟨z,hz,h1⟩:=dM (c70 hX hY (by rw [aX];omega) (by rw [aY];omega)) (cC hX.az hY.az) l7.wm
  obtain ⟨v,hv,h2⟩:=dM (Iq lj hq) (cU lj.az) l7.wm
  obtain ⟨v',ji,h3⟩:=dM (Iq gY rB) (cU gY.az) l7.wm
  obtain ⟨w,hw,h4⟩:=dM (Ip hv ji (by rw [Int.natAbs_natCast];omega) (by rw [Int.natAbs_natCast];omega)) (cC hv.az ji.az) l7.wm
  have aZ:(p*(q':Int)+p'*(q:Int)).natAbs≤p.natAbs*q'+p'.natAbs*q:=by
   rw [←aX,←aY];exact Int.natAbs_add_le _ _
  have aW:((q:Int)*(q':Int)).natAbs=q*q':=by rw [Int.natAbs_mul,Int.natAbs_natCast,Int.natAbs_natCast]
  have hzl:(nd (p*(q':Int)+p'*(q:Int)).natAbs).length≤1000000:=by
   have h5:=fB aZ
   have h6:(nd (p.natAbs*q'+p'.natAbs*q)).length≤(nd (p.natAbs*q')).length+(nd (p'.natAbs*q)).length+1:=by
    refine mZ ?_
    have t1:=iS (cJ (p.natAbs*q'))
    have t2:=iS (cJ (p'.natAbs*q))
    rw [cn,qV] at t1 t2
    have t3:p.natAbs*q'<1000000000 ^ (nd (p.natAbs*q')).length:=by omega
    have t4:p'.natAbs*q<1000000000 ^ (nd (p'.natAbs*q)).length:=by omega
    have t5:1000000000 ^ (nd (p.natAbs*q')).length≤1000000000 ^ ((nd (p.natAbs*q')).length+(nd (p'.natAbs*q)).length):=Nat.pow_le_pow_right (by omega) (by omega)
    have t6:1000000000 ^ (nd (p'.natAbs*q)).length≤1000000000 ^ ((nd (p.natAbs*q')).length+(nd (p'.natAbs*q)).length):=Nat.pow_le_pow_right (by omega) (by omega)
    rw [Nat.pow_succ]
    omega
   omega
  obtain ⟨r,hr,h7⟩:=dM (Wq hz hw hzl (by rw [aW];omega)) (cC hz.az hw.az) l7.wm
  obtain ⟨P,Q,hV,hC,uA,qj⟩:=hr
  rw [aW] at qj
  have FM:=hC
  obtain ⟨dd,ee,rfl,Aa,Ad⟩:=hC
  obtain ⟨s8,f8,c8,l8,k8,n8⟩:=r3.mN (r:=some (ag.aF (.ptr s2.n 0))) (w:=some (ag.aF (.ptr s2.n 0))) (l:= [.bool (decide (P<0)),dd,.bool false,ee]) (z:=4) l7 rfl rfl (RR.atoms Aa Ad).1
  simp (disch:=omega) only [jU,st,sf,cS,r1.r4,r2.r4,r5.r2,c7.r2,h1,h2,h3,h4,h7,f8]
  refine wU (vA (fl:= [_,_,_,_,_,_,_,_,_]) (b:=s2.n) 9 rfl (by decide) (by repeat' first|exact trivial|apply Qs.c0)) ?_
  exact ⟨_,⟨P,Q,hV,FM,by omega,qj⟩,H0 c8 l8 hs rfl (RR.atoms Aa Ad).2⟩) (by omega)
theorem c83 {p p':Int} {q q':Nat} {a b:V} (ha:CR p q a) (hb:CR p' q' b) (hq:0<q) (rB:0<q') (hl:(nd p.natAbs).length≤100000∧(nd q).length≤100000) (fg:(nd p'.natAbs).length≤100000∧(nd q').length≤100000):
  eL cx 83 [a,b] (PM (p.natAbs*p'.natAbs) (max 1 (q*q'))):=fun s hs=>
 (E83 (aE (by decide))).fD 0 (by
  have lj:=ha
  have gY:=hb
  obtain ⟨d,e,rfl,hd,he⟩:=ha
  obtain ⟨d',e',rfl,gj,he'⟩:=hb
  show bW s _ (Tu cx 0 (.agg [.bool (decide (p<0)),d,.bool false,e]) (.agg [.bool (decide (p'<0)),d',.bool false,e']) s)
  unfold Tu
  obtain ⟨s1,e1,b1,l1,k1,n1⟩:=ca [.bool (decide (p<0)),d,.bool false,e] 45 (Loc.refl hs)
  obtain ⟨s2,e2,b2,l2,k2,n2⟩:=ca [.bool (decide (p'<0)),d',.bool false,e'] 45 l1
  obtain ⟨s3,e3,b3,l3,k3,n3⟩:=ca [.bool false,.ah,.bool false,.ah] 45 l2
  have eX:=(b1.kp k2 (by simp)).kp k3 (by simp)
  have kr:=b2.kp k3 (by simp)
  have hP:CV p (.agg [.bool (decide (p<0)),d]):=⟨d,rfl,hd⟩
  have ID:CV p' (.agg [.bool (decide (p'<0)),d']):=⟨d',rfl,gj⟩
  obtain ⟨x,hx,f1⟩:=dM (Ip hP ID (by omega) (by omega)) (cC hP.az ID.az) l3.wm
  obtain ⟨v,hv,f2⟩:=dM (Iq lj hq) (cU lj.az) l3.wm
  obtain ⟨v',ji,f3⟩:=dM (Iq gY rB) (cU gY.az) l3.wm
  obtain ⟨w,hw,f4⟩:=dM (Ip hv ji (by rw [Int.natAbs_natCast];omega) (by rw [Int.natAbs_natCast];omega)) (cC hv.az ji.az) l3.wm
  have m1:=kH p.natAbs p'.natAbs
  have m2:=kH q q'
  have aX:(p*p').natAbs=p.natAbs*p'.natAbs:=Int.natAbs_mul _ _
  have aW:((q:Int)*(q':Int)).natAbs=q*q':=by rw [Int.natAbs_mul,Int.natAbs_natCast,Int.natAbs_natCast]
  obtain ⟨r,hr,f5⟩:=dM (Wq hx hw (by rw [aX];omega) (by rw [aW];omega)) (cC hx.az hw.az) l3.wm
  rw [aX,aW] at hr
  obtain ⟨P,Q,hV,hC,uA,qj⟩:=hr
  have FM:=hC
  obtain ⟨dd,ee,rfl,Aa,Ad⟩:=hC
  obtain ⟨s8,f8,c8,l8,k8,n8⟩:=b3.mN (r:=some (ag.aF (.ptr s2.n 0))) (w:=some (ag.aF (.ptr s2.n 0))) (l:= [.bool (decide (P<0)),dd,.bool false,ee]) (z:=4) l3 rfl rfl (RR.atoms Aa Ad).1
  simp (disch:=omega) only [jU,st,sf,dt,e1,e2,e3,cS,eX.r4,kr.r4,f1,f2,f3,f4,f5,f8]
  refine wU (vA (fl:= [_,_,_,_,_,_,_,_,_,_,_]) (b:=s2.n) 11 rfl (by decide) (by repeat' first|exact trivial|apply Qs.c0)) ?_
  exact ⟨_,⟨P,Q,hV,FM,uA,qj⟩,H0 c8 l8 hs rfl (RR.atoms Aa Ad).2⟩) (by omega)
def qi (q:Nat):Int:=if q=1 then 0 else q
theorem nf (q:Nat):nd (qi q).natAbs=qd q∧decide (qi q<0)=false:=by
 unfold qi qd
 by_cases h:q=1
 ·rw [if_pos h,if_pos h];exact ⟨by rw [show (0:Int).natAbs=0 from rfl,cG],rfl⟩
 ·rw [if_neg h,if_neg h,Int.natAbs_natCast];exact ⟨rfl,decide_eq_false (by omega)⟩
def oZ (p:Int) (q:Nat):List Int:=eC (iF p)++eC (iF (qi q))
theorem iw {l:List Int} (hr: ∀x,x∈l→fk x) (hl:l.length≤1000000):(eC l).length≤9*(l.length+1):=by
 unfold eC
 rw [List.length_append]
 have h1:=kv (n:=(l.length:Int)) (by omega) (by omega)
 have h2:=zC hr
 omega
theorem c60 {p:Int} {q:Nat} {a:V} (ha:CR p q a) (hl:(nd p.natAbs).length≤100000∧(nd q).length≤100000):xM cx 60 [a] 5 1 (oZ p q).length (Bs (oZ p q)):=fun s hs=>
 (E60 (aE (by decide))).runN 0 (by
  obtain ⟨d,e,rfl,hd,he⟩:=ha
  show fE s 5 1 _ _ (VF cx 0 (.agg [.bool (decide (p<0)),d,.bool false,e]) s)
  unfold VF
  obtain ⟨s1,e1,b1,l1,k1,n1⟩:=ca [.bool (decide (p<0)),d,.bool false,e] 45 (Loc.refl hs)
  have hP:CV p (.agg [.bool (decide (p<0)),d]):=⟨d,rfl,hd⟩
  have hQ:CV (qi q) (.agg [.bool false,e]):=⟨e,by rw [(nf q).2],by rw [(nf q).1];exact he⟩
  have QC:=rV q
  have nT:=(nf q).1
  obtain ⟨x,t1,h1,f1,o1,m1,j1,g1⟩:=jw l1 (by simp [hP.cm]) (OR hP (by omega)) (cY _)
  have eX:=b1.kp j1 (by simp)
  obtain ⟨y,t2,h2,f2,o2,m2,j2,g2⟩:=jw m1 (by simp [hQ.cm]) (OR hQ (by rw [nT];omega)) (cY _)
  have FW:=o1.kp j2 (fun _ _=>by simp)
  have L1:=iw (gT p) (by unfold iF;rw [List.length_cons];omega)
  have L2:=iw (gT (qi q)) (by unfold iF;rw [List.length_cons,nT];omega)
  have L3:(iF p).length≤100001:=by unfold iF;rw [List.length_cons];omega
  have L4:(iF (qi q)).length≤100001:=by unfold iF;rw [List.length_cons,nT];omega
  obtain ⟨v2,t3,w2,h3,f3,o3,m3,j3,g3,g3'⟩:=vO (te:=iE) (r:=some ([x,y].flatMap ag.aF)) (w:=some (ag.aF x)) m2 FW o2 (dZ _ _) rfl (by decide) (by rw [dO];omega)
  simp (disch:=omega) only [jN,dt,e1,st,sf,cS,b1.r4,f1,f2,eX.r4,f3]
  have LH:Ow s t3 5 1 v2 (oZ p q).length (Bs (oZ p q)):=by
   unfold oZ
   rw [List.length_append]
   simpa using o3
  refine wN (Iy [] 8 rfl ?_) (eP hs m3 LH (aS _ _))
  refine .c0 (.c0 (.c0 (.c0 (.c0 (.c0 (.cw ?_ (by decide) (.c0 trivial)))))))
  rcases g3' with h|⟨h,_⟩
  ·exact .inl h
  ·exact .inr ⟨_,h,fun _ _ h=>by cases h⟩) (by omega)
structure Rw where
 np:Bool
 lp:List Int
 nq:Bool
 lq:List Int
def Rw.zero:Rw:=⟨false, [],false, []⟩
def RW (w:Rw) (r:V):Prop:=RR w.np w.lp w.nq w.lq r
def dR (b:List Int):Rw×Int×Int:=
 if (dI b).2.2.2≠0 then (.zero,0,(dI b).2.2.2) else
 if (dI (b.drop (dI b).2.2.1.toNat)).2.2.2≠0 then (.zero,0,(dI (b.drop (dI b).2.2.1.toNat)).2.2.2) else
 if Cn (dI b).1 (dI b).2.1 (dI (b.drop (dI b).2.2.1.toNat)).1 (dI (b.drop (dI b).2.2.1.toNat)).2.1=false then (.zero,0,2) else
 (⟨(dI b).1,(dI b).2.1,(dI (b.drop (dI b).2.2.1.toNat)).1,(dI (b.drop (dI b).2.2.1.toNat)).2.1⟩,(dI b).2.2.1+(dI (b.drop (dI b).2.2.1.toNat)).2.2.1,0)
def D5 (r:Rw×Int×Int) (v:V):Prop:= ∃a,v= .dQ [a,.int .i64 r.2.1,.int .i64 r.2.2]∧RW r.1 a
theorem oW {b:List Int} (hb:bytes b):0≤(dI b).2.2.1∧(dI b).2.2.1≤b.length∧(dI b).2.1.length≤b.length:=by
 have:=kC hb
 unfold dI
 (repeat' split)<;>simp<;>omega
theorem Nm:RR false [] false [] (.agg [.bool false,.ah,.bool false,.ah]):=⟨.ah,.ah,rfl,Is.nil _,Is.nil _⟩
theorem c65 {v:V} {b:List Int} (hv:Is .u8 v b) (hb:bytes b) (hlen:b.length≤1000000):eL cx 65 [v] (D5 (dR b)):=fun s hs=>
 (E65 (aE (by decide))).fD 0 (by
  show bW s _ (VI cx 0 v s)
  unfold VI
  obtain ⟨s1,e1,b1,l1,k1,n1⟩:=ca [.bool false,.ah,.bool false,.ah] 45 (Loc.refl hs)
  obtain ⟨r1,⟨a,rfl,ha⟩,e2⟩:=aU (dr:=false) (st:=true) (OU hv hb hlen) (cU hv.az) l1.wm
  have hI:=oW hb
  unfold dR
  generalize hr:dI b=r at*
  obtain ⟨d,rfl,hd⟩:=ha
  obtain ⟨s2,e3,b2,l2,k2,n2⟩:=cO (cs:= [.bool false,.ah]) (l:= [.bool r.1,d]) (t:=43) (z:=2) l1 rfl rfl (RV.atoms hd).1
  have eX:=b1.kp k2 (by simp)
  have yB:=b1.hi
  have bad: ∀(t:S) (n e:Int),Loc s t→dX s t s.n [.bool false,.ah,.bool false,.ah] 45 false→ ∃t',aq t (aB 4 (.ptr s.n 0) (.agg [.bool false,.ah,.bool false,.ah]) (aw t))=some (.bad,t')∧aC s t' [aD 4 t' (.ptr s.n 0),some (.int .i64 n),some (.int .i64 e)]=some (.dQ [.agg [.bool false,.ah,.bool false,.ah],.int .i64 n,.int .i64 e],s):=by
   intro t n e hlt DJ
   obtain ⟨t',f1,c1,m1,_,_⟩:=DJ.put (l:= [.bool false,.ah,.bool false,.ah]) (z:=4) hlt rfl rfl rfl
   exact ⟨t',f1,p7 c1 m1 hs rfl rfl⟩
  simp (disch:=omega) only [jU,st,e1,e2]
  rw [e3]
  by_cases h1:r.2.2.2=0
  ·rw [if_neg (by omega)]
   obtain ⟨w,hw,QT⟩:=hv.BQ (q:= .i64) (lo:=r.2.2.1) (by omega) (by omega)
   have pq:=bP r.2.2.1.toNat hb
   have nD:(b.drop r.2.2.1.toNat).length≤1000000:=by rw [List.length_drop];omega
   have WT:=oW pq
   rw [List.length_drop] at WT
   obtain ⟨r2,⟨a2,rfl,DG⟩,e4⟩:=aU (dr:=false) (st:=true) (OU QT pq nD) (cU QT.az) l2.wm
   generalize dI (b.drop r.2.2.1.toNat)=r' at*
   obtain ⟨d2,rfl,sE⟩:=DG
   obtain ⟨s3,e5,b3,l3,k3,n3⟩:=cO (cs:= [.bool false,.ah]) (l:= [.bool r'.1,d2]) (t:=43) (z:=2) l2 rfl rfl (RV.atoms sE).1
   have xX:=eX.kp k3 (by simp)
   have kr:=b2.kp k3 (by simp)
   simp (disch:=omega) only [jU,st,si,h1,ne_eq,not_true,hw,e4]
   rw [e5]
   by_cases h2:r'.2.2.2=0
   ·rw [if_neg (by simp [h2])]
    obtain ⟨s4,e6,b4,l4,k4,n4⟩:=cO (cs:= [.bool false,.ah,.bool false,.ah]) (l:= [.bool r.1,d,.bool r'.1,d2]) (t:=45) (z:=4) l3 rfl rfl (RR.atoms hd sE).1
    have Il:=xX.kp k4 (by simp)
    have By:RR r.1 r.2.1 r'.1 r'.2.1 (.agg [.bool r.1,d,.bool r'.1,d2]):=⟨d,d2,rfl,hd,sE⟩
    have e7:=bO (dr:=false) (st:=false) (V3 By (by omega) (by omega)) (cU By.az) l4.wm
    simp (disch:=omega) only [jU,st,si,h2,ne_eq,not_true,kr.r2,b3.r2,zE]
    rw [e6]
    simp (disch:=omega) only [jU,st,b4.r4,e7,ea]
    cases Lm:Cn r.1 r.2.1 r'.1 r'.2.1 with
    |false=>
     obtain ⟨t',f1,f2⟩:=bad s4 0 2 l4 Il
     simp (disch:=omega) only [jU,st,Bool.not_false,eB,f1, ↓reduceIte]
     exact ⟨_,⟨_,rfl,Nm⟩,f2⟩
    |true=>
     obtain ⟨t2,f3,c3,m3,_,_⟩:=Il.put (l:= [.bool r.1,d,.bool r'.1,d2]) (z:=4) l4 rfl rfl (RR.atoms hd sE).1
     simp (disch:=omega) only [jU,st,si,Bool.not_true,b4.r4,br,f3,Bool.true_eq_false, ↓reduceIte]
     exact ⟨_,⟨_,rfl,By⟩,p7 c3 m3 hs rfl (RR.atoms hd sE).2⟩
   ·rw [if_pos h2]
    obtain ⟨t',f1,f2⟩:=bad s3 0 r'.2.2.2 l3 xX
    simp (disch:=exact h2) only [jU,st,si,eB,f1]
    exact ⟨_,⟨_,rfl,Nm⟩,f2⟩
  ·rw [if_pos h1]
   obtain ⟨t',f1,f2⟩:=bad s2 0 r.2.2.2 l2 eX
   simp (disch:=exact h1) only [jU,st,si,eB,f1]
   exact ⟨_,⟨_,rfl,Nm⟩,f2⟩) (by omega)
theorem O5 {x:Int} {a:V} (ha:CV x a):jK cx 154 [a] (.int .i64 (jb x 0)):=fun s hs=>
 (NL (aE (by decide))).run 0 (by
  obtain ⟨d,rfl,hd⟩:=ha
  show Gs cx 0 (.agg [.bool (decide (x<0)),d]) s=_
  unfold Gs
  obtain ⟨s1,e1,b1,l1,k1,n1⟩:=ca [.bool (decide (x<0)),d] 43 (Loc.refl hs)
  unfold jb
  by_cases hx:x<0
  ·simp (disch:=omega) only [jE,st,dt,e1,cS,b1.r2]
   rw [aO rfl (by omega) l1.fx,if_pos hx]
  ·by_cases h0:x=0
   ·have hz:(nd x.natAbs).length=0:=by rw [h0,show (0:Int).natAbs=0 from rfl,cG];rfl
    simp (disch:=omega) only [jE,st,si,dt,e1,cS,b1.r2,hd.len]
    rw [aO rfl (by omega) l1.fx,if_neg hx,if_neg (by omega)]
   ·have hz: ¬(nd x.natAbs).length=0:=fun h=>by have:=I6 (List.length_eq_zero_iff.1 h);omega
    simp (disch:=omega) only [jE,st,si,dt,e1,cS,b1.r2,hd.len]
    rw [aO rfl (by omega) l1.fx,if_neg hx,if_pos (by omega)]) (by omega)
theorem O8 (a:Int):jK cx 173 [.int .i64 a] (.bool false):=fun s hs=>
 (NT (aE (by decide))).run 0 (by
  show GA cx 0 (.int .i64 a) s=_
  unfold GA
  simp (disch:=omega) only [st,si,ne_eq,not_true]
  exact aO rfl (by omega) (by omega)) (by omega)
theorem O0 (a b:Int):jK cx 137 [.int .i64 a,.int .i64 b] (.int .i64 (jb a b)):=fun s hs=>
 (NK (aE (by decide))).run 0 (by
  show Gr cx 0 (.int .i64 a) (.int .i64 b) s=_
  unfold Gr
  have e1:=bO (dr:=false) (st:=false) (O8 a) (cU rfl) (s:=s) (by omega)
  have e2:=bO (dr:=false) (st:=false) (O8 b) (cU rfl) (s:=s) (by omega)
  unfold jb
  by_cases h1:a<b
  ·simp (disch:=omega) only [jE,st,si,e1,e2]
   rw [aO rfl (by omega) (by omega),if_pos h1]
  ·by_cases h2:b<a
   ·simp (disch:=omega) only [jE,st,si,e1,e2]
    rw [aO rfl (by omega) (by omega),if_neg h1,if_pos h2]
   ·simp (disch:=omega) only [jE,st,si,e1,e2]
    rw [aO rfl (by omega) (by omega),if_neg h1,if_neg h2]) (by omega)
theorem G7 {v w:V} {x y:Nat} (hv:Is .i64 v (nd x)) (hw:Is .i64 w (nd y)) (hl:(nd x).length≤1000000000):jK cx 200 [v,w] (.int .i64 (jb x y)):=fun s hs=>
 (N1 (aE (by decide))).run ((nd x).length+1) (by
  show GJ cx _ v w s=_
  unfold GJ
  generalize hF:(nd x).length+1=F
  have h1:=cn x
  have h2:=cn y
  have hx:=cJ x
  have hy:=cJ y
  by_cases hne:(nd x).length=(nd y).length
  ·simp (disch:=omega) only [jE,st,si,hv.len,hw.len,hne,ne_eq,not_true,br]
   rw [←hne]
   generalize nd x=a at*
   generalize nd y=b at*
   refine aP (fun r=>r=_) (fun k vs t=>vs= [.int .i64 ((k:Int) - 1),v,w]∧s=t∧k≤a.length∧a.drop k=b.drop k) ?_ _ a.length _ _ ⟨rfl,rfl,Nat.le_refl _,by rw [List.drop_eq_nil_of_le (Nat.le_refl _),List.drop_eq_nil_of_le (by omega)]⟩ (by omega)
   rintro ih k _ _ ⟨rfl,rfl,hk,he⟩ eZ
   by_cases h0:k=0
   ·subst h0
    simp (disch:=omega) only [jE,st,si]
    rw [aO rfl (by omega) (by omega)]
    rw [List.drop_zero,List.drop_zero] at he
    rw [he,h2] at h1
    unfold jb
    rw [if_neg (by omega),if_neg (by omega)]
   ·obtain ⟨k,rfl⟩: ∃j,k=j+1:=⟨k - 1,by omega⟩
    have e1:((k+1:Nat):Int) - 1=k:=by omega
    rw [e1]
    by_cases heq:a.getD k 0=b.getD k 0
    ·simp (disch:=omega) only [jE,st,si,hv.ix,hw.ix,dW,Int.toNat_natCast,heq,ne_eq,not_true,br]
     refine eZ k _ _ (by omega) ⟨rfl,rfl,by omega,?_⟩
     rw [fR a 0 (by omega),fR b 0 (by omega),he,heq]
    ·have e2:=bO (dr:=true) (st:=false) (O0 (a.getD k 0) (b.getD k 0)) (cC rfl rfl) (s:=s) (by omega)
     simp (disch:=omega) only [jE,st,si,hv.ix,hw.ix,dW,Int.toNat_natCast,e2]
     rw [aO rfl (by omega) (by omega)]
     unfold jb
     rcases (show a.getD k 0<b.getD k 0∨b.getD k 0<a.getD k 0 by omega) with hlt|hgt
     ·have:=uj hne hx hy (by omega) he hlt
      rw [if_pos hlt,if_pos (by omega)]
     ·have:=uj hne.symm hy hx (by omega) he.symm hgt
      rw [if_neg (by omega),if_pos hgt,if_neg (by omega),if_pos (by omega)]
  ·have e2:=bO (dr:=false) (st:=true) (O0 ((nd x).length:Int) ((nd y).length:Int)) (cC rfl rfl) (s:=s) (by omega)
   simp (disch:=omega) only [jE,st,si,hv.len,hw.len,e2]
   rw [aO rfl (by omega) (by omega)]
   unfold jb
   rcases (show (nd x).length<(nd y).length∨(nd y).length<(nd x).length by omega) with hlt|hgt
   ·have:=rM hlt
    rw [if_pos (by omega),if_pos (by omega)]
   ·have:=rM hgt
    rw [if_neg (by omega),if_pos (by omega),if_neg (by omega),if_pos (by omega)]) (by omega)
theorem G5 {v:V} {l:List Int} (hv:Is .i64 v l) (hd:gu l):jK cx 193 [v] (if l.length≤2 then .dQ [.int .i64 (vb l),.bool true] else .dQ [.int .i64 0,.bool false]):=fun s hs=>
 (NX (aE (by decide))).run 0 (by
  show GF cx 0 v s=_
  unfold GF
  match l,hv,hd with
  | [],hv,hd=>
   simp (disch:=simp) only [jE,st,si,hv.len]
   exact lR rfl (by omega) (by omega)
  | [a],hv,hd=>
   have h0: ∀t:S,aM t (.dS (List.drop 0 (List.map (V.int .i64) [a])))=some (.int .i64 a):=fun t=>dW .i64 [a] t (by simp)
   simp (disch:=simp) only [jE,st,si,hv.len,hv.ix,h0]
   rw [lR rfl (by omega) (by omega)]
   simp [vb]
  | [a,b],hv,hd=>
   have hb:=dF hd 1
   have ha:=dF hd 0
   simp at ha hb
   have h0: ∀t:S,aM t (.dS (List.drop 0 (List.map (V.int .i64) [a,b])))=some (.int .i64 a):=fun t=>dW .i64 [a,b] t (by simp)
   have h1: ∀t:S,aM t (.dS (List.drop 1 (List.map (V.int .i64) [a,b])))=some (.int .i64 b):=fun t=>dW .i64 [a,b] t (by simp)
   have w1:IntKind.i64.wrap (b*1000000000)=b*1000000000:=br (by omega) (by omega)
   have w2:IntKind.i64.wrap (b*1000000000+a)=b*1000000000+a:=br (by omega) (by omega)
   simp (disch:=simp) only [jE,st,si,hv.len,hv.ix,h0,h1,w1,w2]
   rw [lR rfl (by omega) (by omega)]
   simp [vb];omega
  |a::b::c::l,hv,hd=>
   have hl:((a::b::c::l).length:Int)=(l.length:Int)+3:=by simp;omega
   have ji:=hv.len
   rw [hl] at ji
   simp (disch:=omega) only [jE,st,si,ji]
   rw [if_neg (by simp)]
   exact lR rfl (by omega) (by omega)) (by omega)
theorem LX {s₀ s:S} {b t e l:Nat} {bL neg:Bool} {cs d:List V} {x:V} (h:dX s₀ s b cs t bL) (hl:Loc s₀ s) (h0:s₀.wm=s₀.n) (hc:cs.length=2) (hx:Ow s₀ s e 1 x l d) (hb:b∉aA x) (ha:d.all atom=true):
  ∃x',Fs 1 x' l d∧(af (aq s (aB 2 (.ptr b 0) (.agg [.bool neg,x]) (aw s))) fun _ s'=>aC s₀ s' [aD 2 s' (.ptr b 0)])=some (.agg [.bool neg,x'],s₀):=by
 have QM:aR x=true:=by cases hx<;>rfl
 obtain ⟨s',e1,b1,l1,k1,_⟩:=h.put (l:= [.bool neg,x]) (z:=2) hl rfl hc (by show (true && (aR x && true))=true;rw [QM];rfl)
 have hx':=hx.kp k1 (fun c hc h=>hb (by simpa using (List.mem_singleton.1 h) ▸ hc))
 obtain ⟨x',bs,h2,h3,rfl⟩:=hx'.fz ha
 refine ⟨x',h3,?_⟩
 rw [e1,bS,b1.r2.2.2]
 exact zH (.cons _ _ _ _ _ _ (.at _ rfl) (.cons _ _ _ _ _ _ h2 .nil)) h0 l1 (fun c hc=>by simp only [List.nil_append,List.append_nil] at hc;exact (hx.lo hc).1)
theorem Ow.aR {s₀ s:S} {e z l:Nat} {v:V} {cs:List V} (h:Ow s₀ s e z v l cs):X.aR v=true:=by cases h<;>rfl
theorem nd1 {n:Nat} (h:0<n) (h':n<1000000000):nd n= [(n:Int)]:=by
 rw [jk (by omega),show n / 1000000000=0 by omega,cG,show n % 1000000000=n by omega]
theorem nd2 {n:Nat} (h:1000000000≤n) (h':n<1000000000000000000):nd n= [((n % 1000000000:Nat):Int),((n / 1000000000:Nat):Int)]:=by
 rw [jk (by omega),nd1 (n:=n / 1000000000) (by omega) (by omega)]
theorem nd3 {n:Nat} (h:1000000000000000000≤n) (h':n<1000000000000000000000000000):nd n= [((n % 1000000000:Nat):Int),((n / 1000000000 % 1000000000:Nat):Int),((n / 1000000000 / 1000000000:Nat):Int)]:=by
 rw [jk (by omega),nd2 (n:=n / 1000000000) (by omega) (by omega)]
theorem J4 {a b:V} (ha:aR a=true) (hb:aR b=true):aI (bz 2 [(.int .i64 0)]) [(0,1,a),(1,1,b)]=some (.agg [a,b]):=by
 rw [ga ha _ _ (by decide),ga hb _ _ (by simp [bz])];rfl
theorem J5 {a b c:V} (ha:aR a=true) (hb:aR b=true) (hc:aR c=true):aI (bz 3 [(.int .i64 0)]) [(0,1,a),(1,1,b),(2,1,c)]=some (.agg [a,b,c]):=by
 rw [ga ha _ _ (by decide),ga hb _ _ (by simp [bz]),ga hc _ _ (by simp [bz])];rfl
theorem G6 (neg:Bool) (u:Nat) (hu:u<18446744073709551616):eL cx 194 [.bool neg,.int .u64 u] (CV (fm neg u)):=fun s hs=>
 (NY (aE (by decide))).fD 0 (by
  show bW s _ (GG cx 0 (.bool neg) (.int .u64 u) s)
  unfold GG
  obtain ⟨s1,e1,b1,l1,k1,n1⟩:=ca [.bool false,.ah] 43 (Loc.refl hs)
  have yB:=b1.hi
  have key: ∀(len:Nat) (c:List V) (ps:List (Nat×Nat×V)),aI c ps=some (.agg (dk (nd u)))→(nd u).length=len→u≠0→
    ∃x t,aq s1 (dL 1 len 3 c ps (aw s1))=some (x,t)∧aI [.bool false,.ah] [(0,1,.bool neg),(1,1,x)]=some (.agg [.bool neg,x])∧
     bW s (CV (fm neg u)) (af (aq t (aB 2 (.ptr s.n 0) (.agg [.bool neg,x]) (aw t))) fun _ s'=>aC s s' [aD 2 s' (.ptr s.n 0)]):=by
   intro len c ps hf hlen hu0
   obtain ⟨x,t,f1,o1,m1,j1,g1⟩:=qU (e:=3) (z:=1) (len:=len) l1 hf (by simp [hlen])
   have QM:aR x=true:=o1.aR
   obtain ⟨x',h2,h3⟩:=LX (neg:=neg) (b1.kp j1 (by simp)) m1 hs rfl o1 (fun h=>by have:=g1 _ h;omega) (aS _ _)
   have yw:Is .i64 x' (nd u):=by unfold Is;rw [hlen];exact h2
   refine ⟨x,t,f1,wj rfl QM,_,⟨x',?_,?_⟩,h3⟩
   ·rw [vc neg (show (0:Int)<u by omega)]
   ·rw [ik neg (by omega),Int.toNat_natCast];exact yw
  by_cases h0:u=0
  ·subst h0
   obtain ⟨t,f1,c1,m1,_,_⟩:=b1.put (l:= [.bool false,.ah]) (z:=2) l1 rfl rfl rfl
   simp (disch:=omega) only [jU,st,si,e1,show ((0:Nat):Int)=0 from rfl,eB,f1]
   rw [show fm neg 0=0 by unfold fm;split<;>rfl]
   exact ⟨_,CV.zero,H0 c1 m1 hs rfl rfl⟩
  by_cases h1:u<1000000000
  ·have hn:=nd1 (n:=u) (by omega) h1
   obtain ⟨x,t,f1,f2,f3⟩:=key 1 (bz 1 [(.int .i64 0)]) [(0,1,.int .i64 u)] (by rw [hn];exact ri rfl) (by rw [hn];rfl) h0
   simp (disch:=omega) only [jU,st,si,e1,eG,br,f1,f2]
   exact f3
  by_cases h2:u<1000000000000000000
  ·have hn:=nd2 (n:=u) (by omega) h2
   obtain ⟨x,t,f1,f2,f3⟩:=key 2 (bz 2 [(.int .i64 0)]) [(0,1,.int .i64 ((u:Int) % 1000000000)),(1,1,.int .i64 ((u:Int) / 1000000000))] (by rw [hn];exact J4 rfl rfl) (by rw [hn];rfl) h0
   simp (disch:=omega) only [jU,st,si,e1,eG,br,H9,f1,f2]
   exact f3
  ·have hn:=nd3 (n:=u) (by omega) (by omega)
   obtain ⟨x,t,f1,f2,f3⟩:=key 3 (bz 3 [(.int .i64 0)]) [(0,1,.int .i64 ((u:Int) % 1000000000)),(1,1,.int .i64 ((u:Int) / 1000000000 % 1000000000)),(2,1,.int .i64 ((u:Int) / 1000000000 / 1000000000))] (by rw [hn];exact J5 rfl rfl rfl) (by rw [hn];rfl) h0
   simp (disch:=omega) only [jU,st,si,e1,eG,br,H9,f1,f2]
   exact f3) (by omega)
theorem Is.ZU {k:IntKind} {v:V} {l:List Int} (h:Is k v l) {n:Nat} (hn:n≤l.length): ∃w,gE 1 v none (some (.int .i64 n)) (some (.int .i64 n))=some w∧Is k w (l.take n):=by
 unfold Is at h ⊢
 generalize hc:l.map (V.int k)=cs at h
 generalize hl:l.length=m at h hn
 cases h with
 |nil=>
  have:l= []:=List.length_eq_zero_iff.1 hl
  subst this
  refine ⟨.ah,?_,by simpa using Fs.nil⟩
  have:bound (some (.int .i64 (n:Int))) 0 0=some 0:=by rw [eM (by omega) (by omega)];congr 1;omega
  unfold gE
  simp only [this]
  rfl
 |mk cs m h=>
  have h1:bound (some (.int .i64 (n:Int))) m m=some n:=by rw [eM (by omega) (by omega),Int.toNat_natCast]
  have uz:bound (some (.int .i64 (n:Int))) n m=some n:=by rw [eM (by omega) (by omega),Int.toNat_natCast]
  have h2:(Nat.ble n n && Nat.ble (n*1) cs.length)=true:=by rw [Bool.and_eq_true,Nat.ble_eq,Nat.ble_eq];omega
  refine ⟨.iL (cs.take n) n,?_,?_⟩
  ·simp only [gE,jq,h1,uz,show bound none n 0=some 0 from rfl,h2]
   simp
  ·rw [←hc,←List.map_take]
   have:(l.take n).length=n:=by rw [List.length_take];omega
   rw [this]
   exact .mk _ _ (by simp;omega)
theorem AY (neg:Bool) {v:V} {l:List Int} (hv:Is .i64 v l) (hlen:l.length≤1000000000):eL cx 192 [.bool neg,v] (fun r=>(∃n l',RV n l' r)∧(gu l→CV (fm neg (vb l)) r)):=fun s hs=>
 (NW (aE (by decide))).fD (l.length+1) (by
  show bW s _ (GD cx _ (.bool neg) v s)
  unfold GD
  generalize hF:l.length+1=F
  obtain ⟨s1,e1,b1,l1,k1,n1⟩:=ca [.bool false,.ah] 43 (Loc.refl hs)
  simp (disch:=omega) only [jU,st,si,e1,hv.len]
  refine aP (bW s _) (fun k vs t=>vs= [.bool neg,v,.int .i64 k,.ptr s.n 0]∧s1=t∧k≤l.length∧vb (l.take k)=vb l) ?_ _ l.length _ _ ⟨rfl,rfl,Nat.le_refl _,by rw [List.take_length]⟩ (by omega)
  rintro ih k _ _ ⟨rfl,rfl,hk,Lo⟩ eZ
  by_cases h0:k=0
  ·subst h0
   have hz:vb l=0:=by rw [←Lo];rfl
   obtain ⟨s2,e2,b2,l2,k2,n2⟩:=b1.put (z:=2) (l:= [.bool false,.ah]) l1 rfl rfl rfl
   simp (disch:=omega) only [jU,st,si,eB,e2,b2.r2]
   refine ⟨_,⟨⟨false, [],RV.zero⟩,fun _=> ?_⟩,aO rfl (by omega) l2.fx⟩
   rw [hz,show fm neg 0=0 by unfold fm;split<;>rfl]
   exact CV.zero
  ·by_cases hz:l.getD (k - 1) 0=0
   ·simp (disch:=omega) only [jU,st,si,br,hv.ix,dW,show ((k:Int) - 1).toNat=k - 1 by omega,hz]
    refine eZ (k - 1) _ _ (by omega) ⟨by rw [show ((k - 1:Nat):Int)=(k:Int) - 1 by omega],rfl,by omega,tZ (by omega) hz Lo⟩
   ·obtain ⟨w,hw,hi⟩:=hv.ZU hk
    obtain ⟨s2,e2,b2,l2,k2,n2⟩:=b1.put (z:=2) (l:= [.bool neg,w]) l1 rfl rfl (RV.atoms hi).1
    simp (disch:=omega) only [jU,st,si,br,hv.ix,dW,show ((k:Int) - 1).toNat=k - 1 by omega]
    have hf:aI [.bool false,.ah] [(0,1,.bool neg),(1,1,w)]=some (.agg [.bool neg,w]):=wj rfl (Fs.aR hi)
    simp (disch:=omega) only [jU,st,si,br,hw,hf,e2,b2.r2]
    refine ⟨_,⟨⟨neg,_,w,rfl,hi⟩,fun hd=> ?_⟩,aO (RV.atoms hi).2 (by omega) l2.fx⟩
    obtain ⟨h1,h2⟩:=xH hd (by omega) hk hz Lo
    refine ⟨w,?_,?_⟩
    ·rw [vc neg h2]
    ·rw [ik neg (by omega),h1];exact hi) (by omega)
def SH (a:List Int) (b:Int) (r:V):Prop:= ∃q l,r= .dQ [q,.int .i64 (vb a % b)]∧Is .i64 q l∧gu l∧vb l=vb a / b∧l.length=a.length
theorem Pb {v:V} {a:List Int} {b:Int} (hv:Is .i64 v a) (ha:gu a) (hb:0<b) (gY:b≤1000000000) (hl:a.length≤1000000000):eL cx 218 [v,.int .i64 b] (SH a b):=fun s hs=>
 (Vs (aE (by decide))).fD (a.length+1) (by
  show bW s _ (Jt cx _ v (.int .i64 b) s)
  unfold Jt
  generalize hF:a.length+1=F
  obtain ⟨out,s4,e4,o4,l4,k4,bo⟩:=Re (T:=types) (t:=22) (ti:=BV) (te:=iV) (x:= .int .i64 0) (n:=(a.length:Int)) (Loc.refl hs) rfl rfl rfl rfl rfl (by omega) (by rw [show iV.bytes=8 from rfl];omega) (by omega)
  rw [Int.toNat_natCast,←lE] at o4
  simp (disch:=omega) only [jU,st,si,hv.len,e4,br]
  refine aP (bW s _) (fun j vs t=> ∃(o:List Int) (r:Int),vs= [.int .i64 ((j:Int) - 1),v,.int .i64 b,out,.int .i64 r]∧Loc s t∧Ow s t 3 1 out a.length (dk o)∧0≤r∧r<b∧gu o∧o.length=a.length∧vb (a.drop j)=vb (o.drop j)*b+r∧j≤a.length) ?_ _ a.length _ _
   ⟨List.replicate a.length 0,0,rfl,l4,o4,by omega,hb,qB _,List.length_replicate,by rw [List.drop_eq_nil_of_le (Nat.le_refl _),List.drop_eq_nil_of_le (by simp)];simp [vb],Nat.le_refl _⟩ (by omega)
  rintro ih j _ t ⟨o,r,rfl,hlt,ho,FU,Eb,xS,hol,hval,hjl⟩ eZ
  by_cases hj:j=0
  ·subst hj
   simp (disch:=omega) only [jU,st,si]
   rw [List.drop_zero,List.drop_zero] at hval
   obtain ⟨h5,h6⟩:=uX (x:=vb a) (b:=b) (q:=vb o) hb (by omega) (by rw [Int.add_mul];omega)
   have mC:Ow s t 3 1 out o.length (dk o):=by rw [hol];exact ho
   obtain ⟨q,bs,h7,h8,rfl⟩:=mC.fz (aS _ _)
   refine ⟨_,⟨q,o,rfl,h8,xS,h5.symm,hol⟩,?_⟩
   rw [h6,show vb a - vb o*b=r by omega]
   exact th (l:= [out,.int .i64 r]) (l':= [q,.int .i64 r]) (bs:=aA out++([]++ [])) (.cons _ _ _ _ _ _ (.one _ _ _ h7) (.cons _ _ _ _ _ _ (.one _ _ _ (.at _ rfl)) .nil)) (by simp) hs hlt (fun b hb=>by simp only [List.append_nil] at hb;exact (ho.lo hb).1)
  ·have MW:=dF ha (j - 1)
   have KY:((j:Int) - 1).toNat=j - 1:=by omega
   have Yk:r*1000000000+a.getD (j - 1) 0<b*1000000000:=by omega
   have HD:0≤(r*1000000000+a.getD (j - 1) 0) / b:=Int.ediv_nonneg (by omega) (by omega)
   have nT:(r*1000000000+a.getD (j - 1) 0) / b<1000000000:=Int.ediv_lt_of_lt_mul hb (by omega)
   have sF:=Int.emod_lt_of_pos (r*1000000000+a.getD (j - 1) 0) hb
   have HF:=Int.emod_nonneg (r*1000000000+a.getD (j - 1) 0) (show b≠0 by omega)
   have Ab:=Int.mul_ediv_add_emod (r*1000000000+a.getD (j - 1) 0) b
   obtain ⟨p,t1,h7,h8,o8,l8,k8⟩:=ho.put hlt .i64 (i:=(j:Int) - 1) (by omega) (by omega) (x:= .int .i64 ((r*1000000000+a.getD (j - 1) 0) / b)) rfl
   rw [KY,←gG] at o8
   simp (disch:=omega) only [jU,st,si,hv.ix,dW,KY,br,h7,h8]
   generalize (r*1000000000+a.getD (j - 1) 0) / b=q at*
   generalize (r*1000000000+a.getD (j - 1) 0) % b=r' at*
   refine eZ (j - 1) _ _ (by omega) ⟨o.set (j - 1) q,r',by rw [show ((j - 1:Nat):Int) - 1=(j:Int) - 1 - 1 by omega],l8,o8,HF,sF,ku xS _ (by omega),by simpa using hol,?_,by omega⟩
   have Px:=eJ a (i:=j - 1) (by omega)
   have MS:=eJ (o.set (j - 1) q) (i:=j - 1) (by simp;omega)
   rw [show j - 1+1=j by omega] at Px MS
   have TU:(o.set (j - 1) q).getD (j - 1) 0=q:=by simp [List.getD_eq_getElem?_getD,List.getElem?_set,show j - 1<o.length by omega]
   have WH:(o.set (j - 1) q).drop j=o.drop j:=List.drop_set_of_lt (by omega)
   rw [Px,MS,TU,WH,hval,Int.add_mul,Int.mul_assoc,Int.mul_comm q b]
   omega) (by omega)
theorem Pc {v:V} {a:List Int} {k:Int} (hv:Is .i64 v a) (ha:gu a) (hk:0≤k) (hk':k<1000000000) (hl:a.length≤100000000):AR cx 251 [v,.int .i64 k] 3 .i64 (fun l=>gu l∧vb l=vb a*k∧l.length=a.length+1):=fun s hs=>
 (Vu (aE (by decide))).L0 (a.length+1) (by
  show qc s 3 .i64 _ (Jv cx _ v (.int .i64 k) s)
  unfold Jv
  generalize hF:a.length+1=F
  obtain ⟨out,s4,e4,o4,l4,k4,bo⟩:=Re (T:=types) (t:=22) (ti:=BV) (te:=iV) (x:= .int .i64 0) (n:=(a.length:Int)+1) (Loc.refl hs) rfl rfl rfl rfl rfl (by omega) (by rw [show iV.bytes=8 from rfl];omega) (by omega)
  rw [show ((a.length:Int)+1).toNat=a.length+1 by omega,←lE] at o4
  simp (disch:=omega) only [jP,st,si,hv.len,br,e4]
  refine aP (qc s 3 .i64 _) (fun m vs t=> ∃(o:List Int) (i:Nat) (c:Int),vs= [.int .i64 i,.int .i64 (a.length:Int),v,.int .i64 k,v,.int .i64 c,out]∧Loc s t∧Ow s t 3 1 out (a.length+1) (dk o)∧gu o∧o.length=a.length+1∧0≤c∧c<1000000000∧vb o+bp i*c=vb (a.take i)*k∧(∀j,i≤j→o.getD j 0=0)∧i+m=a.length) ?_ _ a.length _ _
   ⟨List.replicate (a.length+1) 0,0,0,rfl,l4,o4,qB _,List.length_replicate,Int.le_refl _,by decide,by rw [xK,List.take_zero,show vb []=0 from rfl,Int.mul_zero,Int.zero_mul];rfl,fun j _=>by simp [List.getD_eq_getElem?_getD,List.getElem?_replicate];split<;>rfl,Nat.zero_add _⟩ (by omega)
  rintro ih m _ t ⟨o,i,c,rfl,hlt,ho,xS,hol,Hq,ll,ji,hz,him⟩ eZ
  by_cases hi:i<a.length
  ·have MW:=dF ha i
   have hm:=uQ MW ⟨hk,hk'⟩
   obtain ⟨p,t1,h7,h8,o8,l8,k8⟩:=ho.put hlt .i64 (i:=(i:Int)) (by omega) (by omega) (x:= .int .i64 ((a.getD i 0*k+c) % 1000000000)) rfl
   rw [Int.toNat_natCast,←gG] at o8
   generalize hak:a.getD i 0*k=ak at*
   simp (disch:=omega) only [jP,st,si,hv.ix,dW,Int.toNat_natCast,hak,br,h7,h8]
   refine eZ (m - 1) _ _ (by omega) ⟨o.set i ((ak+c) % 1000000000),i+1,(ak+c) / 1000000000,rfl,l8,o8,ku xS _ (by omega),by simpa using hol,by omega,by omega,?_,fun j hj=> ?_,by omega⟩
   ·rw [kS _ _ _ (by omega),hz i (Nat.le_refl _),Int.sub_zero,qW,nr,Int.add_mul,Int.mul_assoc (bp i),hak]
    have h3:=carry (ak+c) (bp i)
    rw [Int.mul_add] at h3
    omega
   ·rw [jT _ _ _ _ (by omega)];exact hz j (by omega)
  ·have XN:i=a.length:=by omega
   subst XN
   rw [List.take_length] at ji
   obtain ⟨p,t1,h7,h8,o8,l8,k8⟩:=ho.put hlt .i64 (i:=(a.length:Int)) (by omega) (by omega) (x:= .int .i64 c) rfl
   rw [Int.toNat_natCast,←gG] at o8
   simp (disch:=omega) only [jP,st,si,hv.len,h7,h8]
   have mC:Ow s t1 3 1 out (o.set a.length c).length (dk (o.set a.length c)):=by rw [List.length_set,hol];exact o8
   refine Dt hs l8 mC ⟨ku xS _ ⟨Hq,ll⟩,?_,by rw [List.length_set];omega⟩
   rw [kS _ _ _ (by omega),hz _ (Nat.le_refl _),Int.sub_zero]
   exact ji) (by omega)
end Go.Vm.X
end
noncomputable section
namespace Go.Vm.X
open Go Go.Vm Go.Proofs.bt
theorem js (L:List Int) (j m:Nat) (h:j+m≤L.length):vb (L.drop j)=vb ((L.drop j).take m)+bp m*vb (L.drop (j+m)):=by
 have:=iO (L.drop j) m (by rw [List.length_drop];omega)
 rwa [List.drop_drop] at this
theorem nu {L:List Int} (hd:gu L) (j m:Nat):0≤vb ((L.drop j).take m)∧vb ((L.drop j).take m)<bp m:=by
 have h1:=hJ (gQ m (lP j hd))
 have h2:=iS (gQ m (lP j hd))
 refine ⟨h1,Int.lt_of_lt_of_le h2 ?_⟩
 rw [List.length_take]
 obtain ⟨k,hk⟩: ∃k,m=min m (L.drop j).length+k:=⟨m - min m (L.drop j).length,by omega⟩
 conv=>rhs;rw [hk,lL]
 have a:=fb (min m (L.drop j).length)
 have b:=fb k
 calc bp (min m (L.drop j).length)=bp (min m (L.drop j).length)*1:=by omega
  _≤_:=Int.mul_le_mul_of_nonneg_left b (by omega)
theorem aa4 {L:List Int} {j n:Nat} (hn:2≤n) (h:j+n<L.length) (hz:vb (L.drop (j+n+1))=0):
  vb (L.drop j)=bp (n - 2)*((L.getD (j+n) 0*1000000000+L.getD (j+n - 1) 0)*1000000000+L.getD (j+n - 2) 0)+vb ((L.drop j).take (n - 2)):=by
 rw [js L j (n - 2) (by omega),show j+(n - 2)=j+n - 2 by omega,eJ L (i:=j+n - 2) (by omega),show j+n - 2+1=j+n - 1 by omega,eJ L (i:=j+n - 1) (by omega),show j+n - 1+1=j+n by omega,eJ L (i:=j+n) h,hz]
 grind
theorem aa3 {L:List Int} {n:Nat} (hn:2≤n) (h:n≤L.length) (hz:vb (L.drop n)=0):
  vb L=bp (n - 2)*(L.getD (n - 1) 0*1000000000+L.getD (n - 2) 0)+vb ((L.drop 0).take (n - 2)):=by
 have:=js L 0 (n - 2) (by omega)
 rw [Nat.zero_add,eJ L (i:=n - 2) (by omega),show n - 2+1=n - 1 by omega,eJ L (i:=n - 1) (by omega),show n - 1+1=n by omega,hz,List.drop_zero] at this
 rw [List.drop_zero,this]
 grind
theorem BU {u g v c:Int} (hu:0≤u∧u<1000000000) (hg:0≤g) (Hw:g≤1000000000) (hv:0≤v∧v<1000000000) (hc:0≤c) (xR:c≤1000000000) (hneg:u - g*v - c<0):
  0≤(u - g*v - c)+(-(u - g*v - c)+999999999) / 1000000000*1000000000∧(u - g*v - c)+(-(u - g*v - c)+999999999) / 1000000000*1000000000<1000000000∧0≤(-(u - g*v - c)+999999999) / 1000000000∧(-(u - g*v - c)+999999999) / 1000000000≤1000000000∧0≤g*v∧g*v≤999999999000000000:=by
 have h1:0≤g*v:=Int.mul_nonneg hg hv.1
 have h2:g*v≤1000000000*v:=Int.mul_le_mul_of_nonneg_right Hw hv.1
 generalize g*v=m at*
 omega
structure LS (s t:S) (bu bv bq:Nat) (U V Q:List Int):Prop where
 l:Loc s t
 u: ∃sl,dX s t bu (dk U) 3 sl
 v: ∃sl,dX s t bv (dk V) 3 sl
 q: ∃sl,dX s t bq (dk Q) 3 sl
 d1:bu≠bv
 d2:bu≠bq
 d3:bv≠bq
section
variable {s t:S} {bu bv bq:Nat} {U V Q:List Int}
theorem I2 {b:Nat} {L:List Int} {sl:Bool} (h:dX s t b (dk L) 3 sl) {j:Nat} (hj:j<L.length):aM t (.ptr b j)=some (.int .i64 (L.getD j 0)):=by
 rw [fI h.rd (by simpa using hj),mD _ hj]
theorem LS.ru (h:LS s t bu bv bq U V Q) {j:Nat} (hj:j<U.length):aM t (.ptr bu j)=some (.int .i64 (U.getD j 0)):=let ⟨_,h⟩:=h.u;I2 h hj
theorem LS.rv (h:LS s t bu bv bq U V Q) {j:Nat} (hj:j<V.length):aM t (.ptr bv j)=some (.int .i64 (V.getD j 0)):=let ⟨_,h⟩:=h.v;I2 h hj
theorem LS.wu (h:LS s t bu bv bq U V Q) {j:Nat} (hj:j<U.length) (x:Int): ∃t',aq t (aB 1 (.ptr bu j) (.int .i64 x) (aw t))=some (.bad,t')∧LS s t' bu bv bq (U.set j x) V Q:=by
 obtain ⟨hl,⟨sl,hu⟩,⟨ZT,hv⟩,⟨sl3,hq⟩,d1,d2,d3⟩:=h
 obtain ⟨t',e1,b1,l1,k1,_⟩:=hu.qo hl (j:=j) (x:= .int .i64 x) (by simpa using hj) rfl
 rw [←gG] at b1
 exact ⟨t',e1,l1,⟨_,b1⟩,⟨_,hv.kp k1 (by simp;exact fun e=>d1 e.symm)⟩,⟨_,hq.kp k1 (by simp;exact fun e=>d2 e.symm)⟩,d1,d2,d3⟩
theorem LS.wq (h:LS s t bu bv bq U V Q) {j:Nat} (hj:j<Q.length) (x:Int): ∃t',aq t (aB 1 (.ptr bq j) (.int .i64 x) (aw t))=some (.bad,t')∧LS s t' bu bv bq U V (Q.set j x):=by
 obtain ⟨hl,⟨sl,hu⟩,⟨ZT,hv⟩,⟨sl3,hq⟩,d1,d2,d3⟩:=h
 obtain ⟨t',e1,b1,l1,k1,_⟩:=hq.qo hl (j:=j) (x:= .int .i64 x) (by simpa using hj) rfl
 rw [←gG] at b1
 exact ⟨t',e1,l1,⟨_,hu.kp k1 (by simp;exact d2)⟩,⟨_,hv.kp k1 (by simp;exact d3)⟩,⟨_,b1⟩,d1,d2,d3⟩
end
theorem Cj {b l c:Nat} {k:IntKind} {i:Int} (h0:0≤i) (h1:i<l):ck 1 (.sl b 0 l c 1) (.int k i)=some (.ptr b i.toNat):=by
 rw [ma k h0 h1,Nat.zero_add,Nat.mul_one]
theorem HP {U Z:List Int} {j n:Nat} {V g:Int} (hl:Z.length=U.length) (Qi:j+n<U.length) (hlo:Z.take j=U.take j) (nF:Z.drop (j+n+1)=U.drop (j+n+1)) (hz:vb (U.drop (j+n+1))=0)
  (hd: ∀p,p<j+n→0≤Z.getD p 0∧Z.getD p 0<1000000000) (hv:vb Z=vb U - bp j*(g*V)) (h0:g*V≤vb (U.drop j)) (h1:vb (U.drop j)<(g+1)*V) (hV:V≤bp n):
  Z.getD (j+n) 0=0∧vb (Z.drop j)<V:=by
 have e1:=iO U j (by omega)
 have e2:=iO Z j (by omega)
 have hbj:=fb j
 have e3:bp j*vb (Z.drop j)=bp j*(vb (U.drop j) - g*V):=by
  rw [hlo] at e2
  rw [Int.mul_sub];omega
 have e4:vb (Z.drop j)=vb (U.drop j) - g*V:=Int.eq_of_mul_eq_mul_left (by omega) e3
 have e5:=js Z j n (by omega)
 have e6:=eJ Z (i:=j+n) (by omega)
 rw [nF,hz,Int.mul_zero,Int.add_zero] at e6
 rw [e6] at e5
 have DO:gu ((Z.drop j).take n):=by
  intro x hx
  obtain ⟨i,hi⟩:=List.getElem?_of_mem hx
  have hin:i<n:=by
   have:=(List.getElem?_eq_some_iff.1 hi).1
   rw [List.length_take] at this;omega
  rw [List.getElem?_take,if_pos hin,List.getElem?_drop] at hi
  have:=hd (j+i) (by omega)
  rw [List.getD_eq_getElem?_getD,hi] at this
  exact this
 have h3:=hJ DO
 have h4:=iS DO
 have h5:bp ((Z.drop j).take n).length=bp n:=by
  congr 1
  rw [List.length_take,List.length_drop];omega
 rw [h5] at h4
 have hlt:vb (Z.drop j)<V:=by rw [Int.add_mul] at h1;omega
 refine ⟨?_,hlt⟩
 have FP:=fb n
 generalize Z.getD (j+n) 0=x at*
 rcases (show x=0∨1≤x∨x≤ -1 by omega) with h|h|h
 ·exact h
 ·have:bp n*1≤bp n*x:=Int.mul_le_mul_of_nonneg_left h (by omega)
  omega
 ·have:bp n*x≤bp n*(-1):=Int.mul_le_mul_of_nonneg_left h (by omega)
  omega
theorem Lw {U Z:List Int} {j:Nat} {D:Int} (hl:Z.length=U.length) (hj:j≤U.length) (hlo:Z.take j=U.take j) (hv:vb Z=vb U - bp j*D):vb (Z.drop j)=vb (U.drop j) - D:=by
 have e1:=iO U j hj
 have e2:=iO Z j (by omega)
 have hbj:=fb j
 have e3:bp j*vb (Z.drop j)=bp j*(vb (U.drop j) - D):=by
  rw [hlo] at e2
  rw [Int.mul_sub];omega
 exact Int.eq_of_mul_eq_mul_left (by omega) e3
theorem HQ {Z:List Int} {j n:Nat} (Qi:j+n<Z.length) (hz:vb (Z.drop (j+n+1))=0) (hd: ∀p,p<j+n→0≤Z.getD p 0∧Z.getD p 0<1000000000):
  (0≤Z.getD (j+n) 0→0≤vb (Z.drop j))∧(Z.getD (j+n) 0<0→vb (Z.drop j)<0):=by
 have e5:=js Z j n (by omega)
 have e6:=eJ Z (i:=j+n) (by omega)
 rw [hz,Int.mul_zero,Int.add_zero] at e6
 rw [e6] at e5
 have DO:gu ((Z.drop j).take n):=by
  intro x hx
  obtain ⟨i,hi⟩:=List.getElem?_of_mem hx
  have hin:i<n:=by
   have:=(List.getElem?_eq_some_iff.1 hi).1
   rw [List.length_take] at this;omega
  rw [List.getElem?_take,if_pos hin,List.getElem?_drop] at hi
  have:=hd (j+i) (by omega)
  rw [List.getD_eq_getElem?_getD,hi] at this
  exact this
 have h3:=hJ DO
 have h4:=iS DO
 have h5:bp ((Z.drop j).take n).length=bp n:=by
  congr 1
  rw [List.length_take,List.length_drop];omega
 rw [h5] at h4
 have FP:=fb n
 constructor
 ·intro h
  have:0≤bp n*Z.getD (j+n) 0:=Int.mul_nonneg (by omega) h
  omega
 ·intro h
  have:bp n*Z.getD (j+n) 0≤bp n*(-1):=Int.mul_le_mul_of_nonneg_left (by omega) (by omega)
  omega
theorem JZ {L:List Int} (h: ∀p,p<L.length→0≤L.getD p 0∧L.getD p 0<1000000000):gu L:=by
 intro x hx
 obtain ⟨i,hi⟩:=List.getElem?_of_mem hx
 have:=h i (List.getElem?_eq_some_iff.1 hi).1
 rw [List.getD_eq_getElem?_getD,hi] at this
 exact this
theorem qC {L M:List Int} {a p:Nat} (h:L.drop a=M.drop a) (hp:a≤p):L.getD p 0=M.getD p 0:=by
 have:=congrArg (fun l=>l[p - a]?) h
 simp only [List.getElem?_drop,show a+(p - a)=p by omega] at this
 rw [List.getD_eq_getElem?_getD,List.getD_eq_getElem?_getD,this]
theorem qD {L M:List Int} {a b:Nat} (h:L.drop a=M.drop a) (hb:a≤b):L.drop b=M.drop b:=by
 have:=congrArg (List.drop (b - a)) h
 rw [List.drop_drop,List.drop_drop,show a+(b - a)=b by omega] at this
 exact this
theorem xo {L:List Int} {j:Nat} {x:Int} (h:j<L.length):(L.set j x).getD j 0=x:=by simp [List.getD_eq_getElem?_getD,List.getElem?_set,h]
end Go.Vm.X
end
