/-
  A part: lemmas; conditions: those that each names.
-/
import Derived.Test.YtalmddmghdinkaaGreatDoorS
set_option linter.all false
set_option linter.deprecated false
noncomputable section
namespace Go.ah.X
open Go Go.ah Go.Proofs.dI
theorem EB{ao s:S}{cs:List V}{t:Nat}{r:Reach}(Z:Loc ao s):∃s' hi,e9 r (some []) s (gv cs t (aN s))=some (.ptr s.n 0,s',eM r s.n hi [])∧dN ao s' s.n cs t false∧Loc ao s'∧fX s s' []∧s'.n=s.n+1:=by
 obtain ⟨s',J,U,aj,aH,bD⟩:=eL cs t Z;obtain ⟨u,cF,dV⟩:=SX (r:=r) (w:=some []) J;refine ⟨s',u.n,?_,U,aj,aH,bD⟩;rw[dV];unfold eM;congr 4;cases Nat.blt u.ag s.n<;>rfl
theorem Xt{p dA:Int}{q q':Nat}{a b:V}(av:jf p q a)(Y:jf dA q' b)(a7:0<q)(kK:0<q')(Z:(aL p.natAbs).length<=100000∧(aL q).length<=100000)(dK:(aL dA.natAbs).length<=100000∧(aL q').length<=100000):
  h6 a9 33 [a,b] (pd (p*(q':Int)+dA*(q:Int)) ((q:Int)*(q':Int)) (p.natAbs*q'+dA.natAbs*q) (max 1 (q*q'))):=λs ae=>
 (Vz (cv aS)).kQ 0 (by
  have jZ:=av;have ft:=Y;obtain ⟨d,e,rfl,ai,he⟩:=av;obtain ⟨bK,aZ,rfl,eP,mi⟩:=Y;show eE s _ (IG a9 0 (.agg [.bool (decide (p<0)),d,.bool false,e]) (.agg [.bool (decide (dA<0)),bK,.bool false,aZ]) s);unfold IG;simp only[cw];obtain ⟨s1,aC,bb,bk,aB,ed⟩:=eL [.bool (decide (p<0)),d,.bool false,e] 45 (Loc.refl ae);obtain ⟨s2,ba,bU,cn,aT,gu⟩:=eL [.bool (decide (dA<0)),bK,.bool false,aZ] 45 bk;obtain ⟨fB,cd,cP,dM,bp,k7⟩:=eL [.bool false,.af,.bool false,.af] 45 cn;have fk:=(bb.a1 aT (by simp)).a1 bp (by simp);have iv:=bU.a1 bp (by simp);have cQ:bN p (.agg [.bool (decide (p<0)),d]):=⟨d,rfl,ai⟩;have tg:bN dA (.agg [.bool (decide (dA<0)),bK]):=⟨bK,rfl,eP⟩;have yQ:=bb.hi;have FD:=bU.hi;have FE:=cP.hi;obtain ⟨u,hu,f1⟩:=ln (xa ft kK) (fJ ft.a2) dM.ag;obtain ⟨x,hx,f2⟩:=ln (w9 cQ hu D (by rw[fb];omega)) (df cQ.a2 hu.a2) dM.ag;obtain ⟨nH,rfl,kz⟩:=hx;obtain ⟨hF,KU,f3,dw,eU,eh,o0⟩:=EB (cs:=[.bool false,.af]) (t:=43) (r:=some []) dM;obtain ⟨rT,f4,kF,hy,eo,tI⟩:=dw.qJ (r:=some (cp.cc (.ptr fB.n 0))) (w:=some (cp.cc (.ptr fB.n 0))) (z:=2) eU rfl rfl (j9 kz).2;simp (disch:=omega) only[cW,st,e2,gf,aC,ba,cd,du,fk.hL,iv.hL,f1,f2,f3,f4];refine lb (pg (bO:=[_,_,_,_,_,_]) (b:=fB.n) 6 rfl aS (by repeat' first|exact trivial|apply iE.eY)) ?_;have cL:=(fk.a1 eh (by simp)).a1 eo (by simp;omega);have cS:=(iv.a1 eh (by simp)).a1 eo (by simp;omega);have ds:=(cP.a1 eh (by simp)).a1 eo (by simp;omega);obtain ⟨kS,p6,dj⟩:=ln (xa jZ a7) (fJ jZ.a2) hy.ag;obtain ⟨y,aI,dL⟩:=ln (w9 tg p6 D (by rw[fb];omega)) (df tg.a2 p6.a2) hy.ag;obtain ⟨md,rfl,jv⟩:=aI;obtain ⟨GP,amo,eH,ma,nj,g2,wj⟩:=EB (cs:=[.bool false,.af]) (t:=43) (r:=some []) hy;obtain ⟨adi,e0,B6,tE,jy,abH⟩:=ma.qJ (r:=some (cp.cc (.ptr rT.n 0))) (w:=some (cp.cc (.ptr rT.n 0))) (z:=2) nj rfl rfl (j9 jv).2;have alT:=kF.hi;have fQ:=(cL.a1 g2 (by simp)).a1 jy (by have:=cL.hi;simp;omega);have bM:=(cS.a1 g2 (by simp)).a1 jy (by have:=cS.hi;simp;omega);have jB:=(ds.a1 g2 (by simp)).a1 jy (by have:=ds.hi;simp;omega);have gL:=(kF.a1 g2 (by simp)).a1 jy (by simp;omega)
  simp (disch:=omega) only[cW,st,e2,du,cL.hL,cS.hL,dj,dL,eH,e0];refine lb (pg (bO:=[_,_,_,_,_,_]) (b:=rT.n) 6 rfl aS (by repeat' first|exact trivial|apply iE.eY)) ?_;have g8:bN (p*(q':Int)) (.agg [.bool (decide (p*(q':Int)<0)),nH]):=⟨nH,rfl,kz⟩;have n4:bN (dA*(q:Int)) (.agg [.bool (decide (dA*(q:Int)<0)),md]):=⟨md,rfl,jv⟩;have dR:=qd p.natAbs q';have dF:=qd dA.natAbs q;have k6:=qd q q';have Er:(p*(q':Int)).natAbs=p.natAbs*q':=by rw[mC,fb]
  have WI:(dA*(q:Int)).natAbs=dA.natAbs*q:=by rw[mC,fb]
  obtain ⟨z,aY,J⟩:=ln (OS g8 n4 (by rw[Er];omega) (by rw[WI];omega)) (df g8.a2 n4.a2) tE.ag;obtain ⟨v,ad,U⟩:=ln (xa jZ a7) (fJ jZ.a2) tE.ag;obtain ⟨v',fx,aj⟩:=ln (xa ft kK) (fJ ft.a2) tE.ag;obtain ⟨w,hw,aH⟩:=ln (w9 ad fx (by rw[fb];omega) (by rw[fb];omega)) (df ad.a2 fx.a2) tE.ag;have ahe:(p*(q':Int)+dA*(q:Int)).natAbs<=p.natAbs*q'+dA.natAbs*q:=by
   rw[<-Er,<-WI];exact Int.natAbs_add_le _ _
  have Ep:((q:Int)*(q':Int)).natAbs=q*q':=by rw[mC,fb,fb]
  have Ay:(aL (p*(q':Int)+dA*(q:Int)).natAbs).length<=1000000:=by
   have bD:=oi ahe;have cF:(aL (p.natAbs*q'+dA.natAbs*q)).length<=(aL (p.natAbs*q')).length+(aL (dA.natAbs*q)).length+1:=by
    refine nm ?_;have t1:=ou (gK (p.natAbs*q'));have t2:=ou (gK (dA.natAbs*q));rw[gq,B4]at t1 t2;have t3:p.natAbs*q'<1000000000 ^ (aL (p.natAbs*q')).length:=D;have t4:dA.natAbs*q<1000000000 ^ (aL (dA.natAbs*q)).length:=D;have t5:1000000000 ^ (aL (p.natAbs*q')).length<=1000000000 ^ ((aL (p.natAbs*q')).length+(aL (dA.natAbs*q)).length):=Hp D D;have t6:1000000000 ^ (aL (dA.natAbs*q)).length<=1000000000 ^ ((aL (p.natAbs*q')).length+(aL (dA.natAbs*q)).length):=Hp D D;rw[Nat.pow_succ];omega
   omega
  obtain ⟨r,E,dV⟩:=ln (JH aY hw Ay (by rw[Ep];omega)) (df aY.a2 hw.a2) tE.ag;obtain ⟨P,Q,jX,m5,vQ,rp,n5⟩:=E;rw[Ep]at rp;have vO:=m5;obtain ⟨O2,Pe,rfl,rr,rv⟩:=m5;obtain ⟨wA,f8,B8,il,oY,R4⟩:=jB.qJ (r:=some (cp.cc (.ptr s2.n 0))) (w:=some (cp.cc (.ptr s2.n 0))) (l:=[.bool (decide (P<0)),O2,.bool false,Pe]) (z:=4) tE rfl rfl (pe.atoms rr rv).1;simp (disch:=omega) only[cW,st,e2,du,fQ.hL,bM.hL,gL.bM,B6.bM,J,U,aj,aH,dV,f8];refine lb (pg (bO:=[_,_,_,_,_,_,_,_,_]) (b:=s2.n) 9 rfl aS (by repeat' first|exact trivial|apply iE.eY)) ?_;exact ⟨_,⟨P,Q,jX,vO,D,rp,n5⟩,Mj B8 il ae rfl (pe.atoms rr rv).2⟩) D
theorem Xs{p dA:Int}{q q':Nat}{a b:V}(av:jf p q a)(Y:jf dA q' b)(a7:0<q)(kK:0<q')(Z:(aL p.natAbs).length<=100000∧(aL q).length<=100000)(dK:(aL dA.natAbs).length<=100000∧(aL q').length<=100000):
  h6 a9 33 [a,b] (l6 (p.natAbs*q'+dA.natAbs*q) (max 1 (q*q'))):=L9 (Xt av Y a7 kK Z dK)
theorem Xx{p dA:Int}{q q':Nat}{a b:V}(av:jf p q a)(Y:jf dA q' b)(a7:0<q)(kK:0<q')(Z:(aL p.natAbs).length<=100000∧(aL q).length<=100000)(dK:(aL dA.natAbs).length<=100000∧(aL q').length<=100000):
  h6 a9 83 [a,b] (pd (p*dA) ((q:Int)*(q':Int)) (p.natAbs*dA.natAbs) (max 1 (q*q'))):=λs ae=>
 (VW (cv aS)).kQ 0 (by
  have jZ:=av;have ft:=Y;obtain ⟨d,e,rfl,ai,he⟩:=av;obtain ⟨bK,aZ,rfl,eP,mi⟩:=Y;show eE s _ (I5 a9 0 (.agg [.bool (decide (p<0)),d,.bool false,e]) (.agg [.bool (decide (dA<0)),bK,.bool false,aZ]) s);unfold I5;simp only[cw];obtain ⟨s1,aC,bb,bk,aB,ed⟩:=eL [.bool (decide (p<0)),d,.bool false,e] 45 (Loc.refl ae);obtain ⟨s2,ba,bU,cn,aT,gu⟩:=eL [.bool (decide (dA<0)),bK,.bool false,aZ] 45 bk;obtain ⟨fB,cd,cP,dM,bp,k7⟩:=eL [.bool false,.af,.bool false,.af] 45 cn;have fk:=(bb.a1 aT (by simp)).a1 bp (by simp);have iv:=bU.a1 bp (by simp);have cQ:bN p (.agg [.bool (decide (p<0)),d]):=⟨d,rfl,ai⟩;have tg:bN dA (.agg [.bool (decide (dA<0)),bK]):=⟨bK,rfl,eP⟩;obtain ⟨x,hx,f1⟩:=ln (w9 cQ tg D D) (df cQ.a2 tg.a2) dM.ag;obtain ⟨v,ad,f2⟩:=ln (xa jZ a7) (fJ jZ.a2) dM.ag;obtain ⟨v',fx,f3⟩:=ln (xa ft kK) (fJ ft.a2) dM.ag;obtain ⟨w,hw,f4⟩:=ln (w9 ad fx (by rw[fb];omega) (by rw[fb];omega)) (df ad.a2 fx.a2) dM.ag;have dR:=qd p.natAbs dA.natAbs;have dF:=qd q q';have Er:(p*dA).natAbs=p.natAbs*dA.natAbs:=mC _ _;have Ep:((q:Int)*(q':Int)).natAbs=q*q':=by rw[mC,fb,fb]
  obtain ⟨r,E,f5⟩:=ln (JH hx hw (by rw[Er];omega) (by rw[Ep];omega)) (df hx.a2 hw.a2) dM.ag;rw[Er,Ep]at E;obtain ⟨P,Q,jX,m5,vQ,rp,n5⟩:=E;have vO:=m5;obtain ⟨O2,Pe,rfl,rr,rv⟩:=m5;obtain ⟨wA,f8,B8,il,oY,R4⟩:=cP.qJ (r:=some (cp.cc (.ptr s2.n 0))) (w:=some (cp.cc (.ptr s2.n 0))) (l:=[.bool (decide (P<0)),O2,.bool false,Pe]) (z:=4) dM rfl rfl (pe.atoms rr rv).1;simp (disch:=omega) only[cW,st,e2,gf,aC,ba,cd,du,fk.hL,iv.hL,f1,f2,f3,f4,f5,f8];refine lb (pg (bO:=[_,_,_,_,_,_,_,_,_,_,_]) (b:=s2.n) 11 rfl aS (by repeat' first|exact trivial|apply iE.eY)) ?_;exact ⟨_,⟨P,Q,jX,vO,vQ,rp,n5⟩,Mj B8 il ae rfl (pe.atoms rr rv).2⟩) D
theorem aiz{p dA:Int}{q q':Nat}{a b:V}(av:jf p q a)(Y:jf dA q' b)(a7:0<q)(kK:0<q')(Z:(aL p.natAbs).length<=100000∧(aL q).length<=100000)(dK:(aL dA.natAbs).length<=100000∧(aL q').length<=100000):
  h6 a9 83 [a,b] (l6 (p.natAbs*dA.natAbs) (max 1 (q*q'))):=L9 (Xx av Y a7 kK Z dK)
def wz(q:Nat):Int:=if q=1 then 0 else q
theorem Sy(q:Nat):aL (wz q).natAbs=j3 q∧decide (wz q<0)=false:=by
 unfold wz j3;by_cases h:q=1;rw[if_pos h,if_pos h];exact ⟨by rw[show (0:Int).natAbs=0 from rfl,jm],rfl⟩;rw[if_neg h,if_neg h,fb];exact ⟨rfl,e3 D⟩
theorem aic{x:Int}{a:V}(av:bN x a):km a9 154 [a] (.int .i64 (e8 x 0)):=λs ae=>
 (UZ (cv aS)).run 0 (by
  obtain ⟨d,rfl,ai⟩:=av;show H3 a9 0 (.agg [.bool (decide (x<0)),d]) s=_;unfold H3;simp only[cw];obtain ⟨s1,aC,bb,bk,aB,ed⟩:=eL [.bool (decide (x<0)),d] 43 (Loc.refl ae);unfold e8;by_cases hx:x<0;simp (disch:=omega) only[eI,st,gf,aC,du,bb.bM];rw[e7 rfl D bk.eK,if_pos hx];by_cases aR:x=0;have aY:(aL x.natAbs).length=0:=by rw[aR,show (0:Int).natAbs=0 from rfl,jm];rfl
  simp (disch:=omega) only[eI,st,bg,gf,aC,du,bb.bM,ai.len];rw[e7 rfl D bk.eK,if_neg hx,if_neg D];have aY: ¬(aL x.natAbs).length=0:=λh=>by have:=xN (vq.1 h);omega
  simp (disch:=omega) only[eI,st,bg,gf,aC,du,bb.bM,ai.len];rw[e7 rfl D bk.eK,if_neg hx,if_pos D]) D
theorem Xk(a:Int):km a9 173 [.int .i64 a] (.bool false):=λs ae=>
 (U8 (cv aS)).run 0 (by
  show Ic a9 0 (.int .i64 a) s=_;unfold Ic;simp only[cw];simp (disch:=omega) only[st,bg,ne_eq,not_true];exact e7 rfl D D) D
theorem OP(a b:Int):km a9 137 [.int .i64 a,.int .i64 b] (.int .i64 (e8 a b)):=λs ae=>
 (UM (cv aS)).run 0 (by
  show HQ a9 0 (.int .i64 a) (.int .i64 b) s=_;unfold HQ;simp only[cw];have aC:=hh (aP:=false) (st:=false) (Xk a) (fJ rfl) (s:=s) D;have ba:=hh (aP:=false) (st:=false) (Xk b) (fJ rfl) (s:=s) D;unfold e8;by_cases J:a<b;simp (disch:=omega) only[eI,st,bg,aC,ba];rw[e7 rfl D D,if_pos J];by_cases U:b<a;simp (disch:=omega) only[eI,st,bg,aC,ba];rw[e7 rfl D D,if_neg J,if_pos U];simp (disch:=omega) only[eI,st,bg,aC,ba];rw[e7 rfl D D,if_neg J,if_neg U]) D
theorem EI{v w:V}{x y:Nat}(ad:bV .i64 v (aL x))(hw:bV .i64 w (aL y))(Z:(aL x).length<=1000000000):km a9 200 [v,w] (.int .i64 (e8 x y)):=λs ae=>
 (Vt (cv aS)).run ((aL x).length+1) (by
  show IA a9 _ v w s=_;unfold IA;simp only[cw];generalize eO:(aL x).length+1=F;have J:=gq x;have U:=gq y;have hx:=gK x;have aI:=gK y;by_cases ey:(aL x).length=(aL y).length;simp (disch:=omega) only[eI,st,bg,ad.len,hw.len,ey,ne_eq,not_true,bT];rw[<-ey];generalize aL x=a at*;generalize aL y=b at*;refine jO (λr=>r=_) (λk vs t=>vs=[.int .i64 ((k:Int) - 1),v,w]∧s=t∧k<=a.length∧a.drop k=b.drop k) ?_ _ a.length _ _ ⟨rfl,rfl,cg _,by rw[pb (cg _),pb D]⟩ D;rintro a3 k _ _ ⟨rfl,rfl,hk,he⟩ cR;by_cases aR:k=0;subst aR;simp (disch:=omega) only[eI,st,bg];rw[e7 rfl D D];rw[h5,h5]at he;rw[he,U]at J;unfold e8;rw[if_neg D,if_neg D];obtain ⟨k,rfl⟩:∃j,k=j+1:=⟨k - 1,D⟩;have aC:((k+1:Nat):Int) - 1=k:=D;rw[aC];by_cases heq:a.getD k 0=b.getD k 0;simp (disch:=omega) only[eI,st,bg,ad.c1,hw.c1,hb,dZ,heq,ne_eq,not_true,bT];refine cR k _ _ D ⟨rfl,rfl,D,?_⟩;rw[ET a 0 D,ET b 0 D,he,heq];have ba:=hh (aP:=true) (st:=false) (OP (a.getD k 0) (b.getD k 0)) (df rfl rfl) (s:=s) D;simp (disch:=omega) only[eI,st,bg,ad.c1,hw.c1,hb,dZ,ba];rw[e7 rfl D D];unfold e8;rcases (show a.getD k 0<b.getD k 0∨b.getD k 0<a.getD k 0 by omega) with b6|ob
  have:=JQ ey hx aI D he b6;rw[if_pos b6,if_pos D];have:=JQ ey.symm aI hx D he.symm ob;rw[if_neg D,if_pos ob,if_neg D,if_pos D];have ba:=hh (aP:=false) (st:=true) (OP ((aL x).length:Int) ((aL y).length:Int)) (df rfl rfl) (s:=s) D;simp (disch:=omega) only[eI,st,bg,ad.len,hw.len,ba];rw[e7 rfl D D];unfold e8;rcases (show (aL x).length<(aL y).length∨(aL y).length<(aL x).length by omega) with b6|ob
  have:=Gu b6;rw[if_pos D,if_pos D];have:=Gu ob;rw[if_neg D,if_pos D,if_neg D,if_pos D]) D
theorem EG{v:V}{l:List Int}(ad:bV .i64 v l)(ai:ea l):km a9 193 [v] (if l.length<=2 then .da [.int .i64 (a0 l),.bool true] else .da [.int .i64 0,.bool false]):=λs ae=>
 (Vn (cv aS)).run 0 (by
  show Iu a9 0 v s=_;unfold Iu;simp only[cw]
  match l,ad,ai with
  |[],ad,ai=>
   simp (disch:=simp) only[eI,st,bg,ad.len];exact xh rfl D D
  |[a],ad,ai=>
   have aR:∀t:S,cZ t (.fu (List.drop 0 (List.map (V.int .i64) [a])))=some (.int .i64 a):=λt=>hb .i64 [a] t (by simp);simp (disch:=simp) only[eI,st,bg,ad.len,ad.c1,aR];rw[xh rfl D D];simp[a0]
  |[a,b],ad,ai=>
   have Y:=jt ai 1;have av:=jt ai 0;simp at av Y;have aR:∀t:S,cZ t (.fu (List.drop 0 (List.map (V.int .i64) [a,b])))=some (.int .i64 a):=λt=>hb .i64 [a,b] t (by simp);have J:∀t:S,cZ t (.fu (List.drop 1 (List.map (V.int .i64) [a,b])))=some (.int .i64 b):=λt=>hb .i64 [a,b] t (by simp);have fV:IntKind.i64.wrap (b*1000000000)=b*1000000000:=bT D D;have fH:IntKind.i64.wrap (b*1000000000+a)=b*1000000000+a:=bT D D;simp (disch:=simp) only[eI,st,bg,ad.len,ad.c1,aR,J,fV,fH];rw[xh rfl D D];simp[a0];omega
  |a::b::c::l,ad,ai=>
   have Z:((a::b::c::l).length:Int)=(l.length:Int)+3:=by simp;omega
   have fx:=ad.len;rw[Z]at fx;simp (disch:=omega) only[eI,st,bg,fx];rw[if_neg (by simp)];exact xh rfl D D) D
theorem aqR{ao s:S}{b t e l:Nat}{bw neg:Bool}{cs d:List V}{x:V}(h:dN ao s b cs t bw)(Z:Loc ao s)(aR:ao.ag=ao.n)(aa:cs.length=2)(hx:cl ao s e 1 x l d)(Y:b∉b4 x)(av:d.all atom=true):
  ∃x',dz 1 x' l d∧(bZ (c6 s (ef 2 (.ptr b 0) (.agg [.bool neg,x]) (aN s))) λ_ s'=>bB ao s' [bf 2 s' (.ptr b 0)])=some (.agg [.bool neg,x'],ao):=by
 have FZ:bL x=true:=by cases hx<;>rfl
 obtain ⟨s',aC,bb,bk,aB,_⟩:=h.put (l:=[.bool neg,x]) (z:=2) Z rfl aa (by show (true && (bL x && true))=true;rw[FZ];rfl);have h3:=hx.a1 aB (λc aa h=>Y (by simpa using (iu.1 h) ▸ aa));obtain ⟨x',bs,U,aj,rfl⟩:=h3.gl av;refine ⟨x',aj,?_⟩;rw[aC,js,bb.bM.2.2];exact E4 (.cons _ _ _ _ _ _ (.at _ rfl) (.cons _ _ _ _ _ _ U .nil)) aR bk (λc aa=>by simp only[hp,hd]at aa;exact (hx.lo aa).1)
theorem cl.bL{ao s:S}{e z l:Nat}{v:V}{cs:List V}(h:cl ao s e z v l cs):X.bL v=true:=by cases h<;>rfl
theorem abJ{n:Nat}(h:0<n)(h':n<1000000000):aL n=[(n:Int)]:=by
 rw[tJ D,show n / 1000000000=0 by omega,jm,show n % 1000000000=n by omega]
theorem abK{n:Nat}(h:1000000000<=n)(h':n<1000000000000000000):aL n=[((n % 1000000000:Nat):Int),((n / 1000000000:Nat):Int)]:=by
 rw[tJ D,abJ (n:=n / 1000000000) D D]
theorem ape{n:Nat}(h:1000000000000000000<=n)(h':n<1000000000000000000000000000):aL n=[((n % 1000000000:Nat):Int),((n / 1000000000 % 1000000000:Nat):Int),((n / 1000000000 / 1000000000:Nat):Int)]:=by
 rw[tJ D,abK (n:=n / 1000000000) D D]
theorem ajY{a b:V}(av:bL a=true)(Y:bL b=true):bW (cC 2 [(.int .i64 0)]) [(0,1,a),(1,1,b)]=some (.agg [a,b]):=by
 rw[rj av _ _ aS,rj Y _ _ (by simp[cC])];rfl
theorem ajZ{a b c:V}(av:bL a=true)(Y:bL b=true)(aa:bL c=true):bW (cC 3 [(.int .i64 0)]) [(0,1,a),(1,1,b),(2,1,c)]=some (.agg [a,b,c]):=by
 rw[rj av _ _ aS,rj Y _ _ (by simp[cC]),rj aa _ _ (by simp[cC])];rfl
theorem EH(neg:Bool)(u:Nat)(hu:u<18446744073709551616):h6 a9 194 [.bool neg,.int .u64 u] (bN (eA neg u)):=λs ae=>
 (Vo (cv aS)).kQ 0 (by
  show eE s _ (Iv a9 0 (.bool neg) (.int .u64 u) s);unfold Iv;simp only[cw];obtain ⟨s1,aC,bb,bk,aB,ed⟩:=eL [.bool false,.af] 43 (Loc.refl ae);have yQ:=bb.hi;have key:∀(len:Nat) (c:List V) (ps:List (Nat×Nat×V)),bW c ps=some (.agg (fp (aL u)))->(aL u).length=len->u≠0->
    ∃x t,c6 s1 (fl 1 len 3 c ps (aN s1))=some (x,t)∧bW [.bool false,.af] [(0,1,.bool neg),(1,1,x)]=some (.agg [.bool neg,x])∧
     eE s (bN (eA neg u)) (bZ (c6 t (ef 2 (.ptr s.n 0) (.agg [.bool neg,x]) (aN t))) λ_ s'=>bB s s' [bf 2 s' (.ptr s.n 0)]):=by
   intro len c ps aM hlen Re;obtain ⟨x,t,f1,dm,dR,e6,dj⟩:=uq (e:=3) (z:=1) (len:=len) bk aM (by simp[hlen]);have FZ:bL x=true:=dm.bL;obtain ⟨x',U,aj⟩:=aqR (neg:=neg) (bb.a1 e6 (by simp)) dR ae rfl dm (λh=>by have:=dj _ h;omega) (lR _ _);have jW:bV .i64 x' (aL u):=by unfold bV;rw[hlen];exact U
   refine ⟨x,t,f1,Pl rfl FZ,_,⟨x',?_,?_⟩,aj⟩;rw[Ms neg (show (0:Int)<u by omega)];rw[Dh neg D,dZ];exact jW
  by_cases aR:u=0;subst aR;obtain ⟨t,f1,cy,dR,_,_⟩:=bb.put (l:=[.bool false,.af]) (z:=2) bk rfl rfl rfl;simp (disch:=omega) only[cW,st,bg,aC,show ((0:Nat):Int)=0 from rfl,uB,f1];rw[show eA neg 0=0 by unfold eA;split<;>rfl];exact ⟨_,bN.zero,Mj cy dR ae rfl rfl⟩;by_cases J:u<1000000000;have a5:=abJ (n:=u) D J;obtain ⟨x,t,f1,f2,f3⟩:=key 1 (cC 1 [(.int .i64 0)]) [(0,1,.int .i64 u)] (by rw[a5];exact J5 rfl) (by rw[a5];rfl) aR;simp (disch:=omega) only[cW,st,bg,aC,vC,bT,f1,f2];exact f3;by_cases U:u<1000000000000000000;have a5:=abK (n:=u) D U;obtain ⟨x,t,f1,f2,f3⟩:=key 2 (cC 2 [(.int .i64 0)]) [(0,1,.int .i64 ((u:Int) % 1000000000)),(1,1,.int .i64 ((u:Int) / 1000000000))] (by rw[a5];exact ajY rfl rfl) (by rw[a5];rfl) aR;simp (disch:=omega) only[cW,st,bg,aC,vC,bT,Bg,f1,f2];exact f3;have a5:=ape (n:=u) D D;obtain ⟨x,t,f1,f2,f3⟩:=key 3 (cC 3 [(.int .i64 0)]) [(0,1,.int .i64 ((u:Int) % 1000000000)),(1,1,.int .i64 ((u:Int) / 1000000000 % 1000000000)),(2,1,.int .i64 ((u:Int) / 1000000000 / 1000000000))] (by rw[a5];exact ajZ rfl rfl rfl) (by rw[a5];rfl) aR;simp (disch:=omega) only[cW,st,bg,aC,vC,bT,Bg,f1,f2];exact f3) D
theorem bV.arw{k:IntKind}{v:V}{l:List Int}(h:bV k v l){n:Nat}(a5:n<=l.length):∃w,jn 1 v none (some (.int .i64 n)) (some (.int .i64 n))=some w∧bV k w (l.take n):=by
 unfold bV at h ⊢;generalize aa:l.map (V.int k)=cs at h;generalize Z:l.length=m at h a5;cases h with
 |nil=>
  have:l=[]:=vq.1 Z;subst this;refine ⟨.af,?_,by simpa using dz.nil⟩;have:bound (some (.int .i64 (n:Int))) 0 0=some 0:=by rw[ur D D];congr 1;omega
  unfold jn;simp only[this];rfl
 |mk cs m h=>
  have J:bound (some (.int .i64 (n:Int))) m m=some n:=by rw[ur D D,dZ]
  have iT:bound (some (.int .i64 (n:Int))) n m=some n:=by rw[ur D D,dZ]
  have U:(Nat.ble n n && Nat.ble (n*1) cs.length)=true:=by rw[dU,eu,eu];omega
  refine ⟨.fs (cs.take n) n,?_,?_⟩;simp only[jn,wB,J,iT,show bound none n 0=some 0 from rfl,U];simp;rw[<-aa,<-List.map_take];have:(l.take n).length=n:=by rw[kV];omega
  rw[this];exact .mk _ _ (by simp;omega)
theorem zN(neg:Bool){v:V}{l:List Int}(ad:bV .i64 v l)(hlen:l.length<=1000000000):h6 a9 192 [.bool neg,v] (λr=>(∃n l',lH n l' r)∧(ea l->bN (eA neg (a0 l)) r)):=λs ae=>
 (Vm (cv aS)).kQ (l.length+1) (by
  show eE s _ (It a9 _ (.bool neg) v s);unfold It;simp only[cw];generalize eO:l.length+1=F;obtain ⟨s1,aC,bb,bk,aB,ed⟩:=eL [.bool false,.af] 43 (Loc.refl ae);simp (disch:=omega) only[cW,st,bg,aC,ad.len];refine jO (eE s _) (λk vs t=>vs=[.bool neg,v,.int .i64 k,.ptr s.n 0]∧s1=t∧k<=l.length∧a0 (l.take k)=a0 l) ?_ _ l.length _ _ ⟨rfl,rfl,cg _,by rw[oB]⟩ D;rintro a3 k _ _ ⟨rfl,rfl,hk,Au⟩ cR;by_cases aR:k=0;subst aR;have aY:a0 l=0:=by rw[<-Au];rfl
  obtain ⟨s2,ba,bU,cn,aT,gu⟩:=bb.put (z:=2) (l:=[.bool false,.af]) bk rfl rfl rfl;simp (disch:=omega) only[cW,st,bg,uB,ba,bU.bM];refine ⟨_,⟨⟨false,[],lH.zero⟩,λ_=>?_⟩,e7 rfl D cn.eK⟩;rw[aY,show eA neg 0=0 by unfold eA;split<;>rfl];exact bN.zero;by_cases aY:l.getD (k - 1) 0=0;simp (disch:=omega) only[cW,st,bg,bT,ad.c1,hb,show ((k:Int) - 1).toNat=k - 1 by omega,aY];refine cR (k - 1) _ _ D ⟨by rw[show ((k - 1:Nat):Int)=(k:Int) - 1 by omega],rfl,D,adW D aY Au⟩;obtain ⟨w,hw,hi⟩:=ad.arw hk;obtain ⟨s2,ba,bU,cn,aT,gu⟩:=bb.put (z:=2) (l:=[.bool neg,w]) bk rfl rfl (lH.atoms hi).1;simp (disch:=omega) only[cW,st,bg,bT,ad.c1,hb,show ((k:Int) - 1).toNat=k - 1 by omega];have aM:bW [.bool false,.af] [(0,1,.bool neg),(1,1,w)]=some (.agg [.bool neg,w]):=Pl rfl (dz.bL hi);simp (disch:=omega) only[cW,st,bg,bT,hw,aM,ba,bU.bM];refine ⟨_,⟨⟨neg,_,w,rfl,hi⟩,λai=>?_⟩,e7 (lH.atoms hi).2 D cn.eK⟩;obtain ⟨J,U⟩:=adV ai D hk aY Au;refine ⟨w,?_,?_⟩;rw[Ms neg U];rw[Dh neg D,J];exact hi) D
def ag8(a:List Int)(b:Int)(r:V):Prop:= ∃q l,r=.da [q,.int .i64 (a0 a % b)]∧bV .i64 q l∧ea l∧a0 l=a0 a / b∧l.length=a.length
theorem Xo{v:V}{a:List Int}{b:Int}(ad:bV .i64 v a)(av:ea a)(Y:0<b)(ft:b<=1000000000)(Z:a.length<=1000000000):h6 a9 218 [v,.int .i64 b] (ag8 a b):=λs ae=>
 (agb (cv aS)).kQ (a.length+1) (by
  show eE s _ (NQ a9 _ v (.int .i64 b) s);unfold NQ;simp only[cw];generalize eO:a.length+1=F;obtain ⟨out,hF,ff,gH,eU,eh,vB⟩:=Gp (T:=types) (t:=22) (ti:=zl) (te:=g3) (x:=.int .i64 0) (n:=(a.length:Int)) (Loc.refl ae) rfl rfl rfl rfl rfl D (by rw[show g3.bytes=8 from rfl];omega) D;rw[dZ,<-BE]at gH;simp (disch:=omega) only[cW,st,bg,ad.len,ff,bT];refine jO (eE s _) (λj vs t=> ∃(o:List Int) (r:Int),vs=[.int .i64 ((j:Int) - 1),v,.int .i64 b,out,.int .i64 r]∧Loc s t∧cl s t 3 1 out a.length (fp o)∧0<=r∧r<b∧ea o∧o.length=a.length∧a0 (a.drop j)=a0 (o.drop j)*b+r∧j<=a.length) ?_ _ a.length _ _
   ⟨List.replicate a.length 0,0,rfl,eU,gH,D,Y,EP _,vo,by rw[pb (cg _),pb (by simp)];simp[a0],cg _⟩ D
  rintro a3 j _ t ⟨o,r,rfl,b6,aE,tt,QZ,n8,kJ,su,po⟩ cR;by_cases aG:j=0;subst aG;simp (disch:=omega) only[cW,st,bg];rw[h5,h5]at su;obtain ⟨bD,cF⟩:=Md (x:=a0 a) (b:=b) (q:=a0 o) Y D (by rw[vp];omega);have jL:cl s t 3 1 out o.length (fp o):=by rw[kJ];exact aE
  obtain ⟨q,bs,dV,fL,rfl⟩:=jL.gl (lR _ _);refine ⟨_,⟨q,o,rfl,fL,n8,bD.symm,kJ⟩,?_⟩;rw[cF,show a0 a - a0 o*b=r by omega];exact E6 (l:=[out,.int .i64 r]) (l':=[q,.int .i64 r]) (bs:=b4 out++([]++ [])) (.cons _ _ _ _ _ _ (.one _ _ _ dV) (.cons _ _ _ _ _ _ (.one _ _ _ (.at _ rfl)) .nil)) (by simp) ae b6 (λb Y=>by simp only[hd]at Y;exact (aE.lo Y).1);have nL:=jt av (j - 1);have vW:((j:Int) - 1).toNat=j - 1:=D;have CX:r*1000000000+a.getD (j - 1) 0<b*1000000000:=D;have xz:0<=(r*1000000000+a.getD (j - 1) 0) / b:=Int.ediv_nonneg D D;have uU:(r*1000000000+a.getD (j - 1) 0) / b<1000000000:=Int.ediv_lt_of_lt_mul Y D;have nO:=zv (r*1000000000+a.getD (j - 1) 0) Y;have tu:=zw (r*1000000000+a.getD (j - 1) 0) (show b≠0 by omega);have ru:=Ho (r*1000000000+a.getD (j - 1) 0) b;obtain ⟨p,t1,dV,fL,kO,il,oY⟩:=aE.put b6 .i64 (i:=(j:Int) - 1) D D (x:=.int .i64 ((r*1000000000+a.getD (j - 1) 0) / b)) rfl;rw[vW,<-q4]at kO;simp (disch:=omega) only[cW,st,bg,ad.c1,hb,vW,bT,dV,fL];generalize (r*1000000000+a.getD (j - 1) 0) / b=q at*;generalize (r*1000000000+a.getD (j - 1) 0) % b=r' at*;refine cR (j - 1) _ _ D ⟨o.set (j - 1) q,r',by rw[show ((j - 1:Nat):Int) - 1=(j:Int) - 1 - 1 by omega],il,kO,tu,nO,xd n8 _ D,by simpa using kJ,?_,D⟩;have Fl:=mU a (i:=j - 1) D;have CB:=mU (o.set (j - 1) q) (i:=j - 1) (by simp;omega);rw[show j - 1+1=j by omega]at Fl CB;have Kw:(o.set (j - 1) q).getD (j - 1) 0=q:=by simp[ir,Bo,show j - 1<o.length by omega]
  have PJ:(o.set (j - 1) q).drop j=o.drop j:=Bv D;rw[Fl,CB,Kw,PJ,su,vp,wR,oA q b];omega) D
theorem Xp{v:V}{a:List Int}{k:Int}(ad:bV .i64 v a)(av:ea a)(hk:0<=k)(fS:k<1000000000)(Z:a.length<=100000000):BI a9 251 [v,.int .i64 k] 3 .i64 (λl=>ea l∧a0 l=a0 a*k∧l.length=a.length+1):=λs ae=>
 (age (cv aS)).GK (a.length+1) (by
  show l5 s 3 .i64 _ (NS a9 _ v (.int .i64 k) s);unfold NS;simp only[cw];generalize eO:a.length+1=F;obtain ⟨out,hF,ff,gH,eU,eh,vB⟩:=Gp (T:=types) (t:=22) (ti:=zl) (te:=g3) (x:=.int .i64 0) (n:=(a.length:Int)+1) (Loc.refl ae) rfl rfl rfl rfl rfl D (by rw[show g3.bytes=8 from rfl];omega) D;rw[show ((a.length:Int)+1).toNat=a.length+1 by omega,<-BE]at gH;simp (disch:=omega) only[uY,st,bg,ad.len,bT,ff];refine jO (l5 s 3 .i64 _) (λm vs t=> ∃(o:List Int) (i:Nat) (c:Int),vs=[.int .i64 i,.int .i64 (a.length:Int),v,.int .i64 k,v,.int .i64 c,out]∧Loc s t∧cl s t 3 1 out (a.length+1) (fp o)∧ea o∧o.length=a.length+1∧0<=c∧c<1000000000∧a0 o+ck i*c=a0 (a.take i)*k∧(∀j,i<=j->o.getD j 0=0)∧i+m=a.length) ?_ _ a.length _ _
   ⟨List.replicate (a.length+1) 0,0,0,rfl,eU,gH,EP _,vo,vn _,aS,by rw[Tr,sP,show a0 []=0 from rfl,nZ,Int.zero_mul];rfl,λj _=>by simp[ir,M3];split<;>rfl,gD _⟩ D
  rintro a3 m _ t ⟨o,i,c,rfl,b6,aE,n8,kJ,uF,hB,fx,aY,ams⟩ cR;by_cases hi:i<a.length;have nL:=jt av i;have hm:=Gs nL ⟨hk,fS⟩;obtain ⟨p,t1,dV,fL,kO,il,oY⟩:=aE.put b6 .i64 (i:=(i:Int)) D D (x:=.int .i64 ((a.getD i 0*k+c) % 1000000000)) rfl;rw[dZ,<-q4]at kO;generalize Zm:a.getD i 0*k=OD at*;simp (disch:=omega) only[uY,st,bg,ad.c1,hb,dZ,Zm,bT,dV,fL];refine cR (m - 1) _ _ D ⟨o.set i ((OD+c) % 1000000000),i+1,(OD+c) / 1000000000,rfl,il,kO,xd n8 _ D,by simpa using kJ,D,D,?_,λj aG=>?_,D⟩;rw[rX _ _ _ D,aY i (cg _),Int.sub_zero,sb,qT,vp,wR (ck i),Zm];have aj:=carry (OD+c) (ck i);rw[qZ]at aj;omega;rw[qz _ _ _ _ D];exact aY j D;have FF:i=a.length:=D;subst FF;rw[oB]at fx;obtain ⟨p,t1,dV,fL,kO,il,oY⟩:=aE.put b6 .i64 (i:=(a.length:Int)) D D (x:=.int .i64 c) rfl;rw[dZ,<-q4]at kO;simp (disch:=omega) only[uY,st,bg,ad.len,dV,fL];have jL:cl s t1 3 1 out (o.set a.length c).length (fp (o.set a.length c)):=by rw[oC,kJ];exact kO
  refine E5 ae il jL ⟨xd n8 _ ⟨uF,hB⟩,?_,by rw[oC];omega⟩;rw[rX _ _ _ D,aY _ (cg _),Int.sub_zero];exact fx) D
section
theorem ve(L:List Int)(j m:Nat)(h:j+m<=L.length):a0 (L.drop j)=a0 ((L.drop j).take m)+ck m*a0 (L.drop (j+m)):=by
 have:=rW (L.drop j) m (by rw[r2];omega)
 rwa [vk]at this
theorem wF{L:List Int}(ai:ea L)(j m:Nat):0<=a0 ((L.drop j).take m)∧a0 ((L.drop j).take m)<ck m:=by
 have J:=nw (vF m (zS j ai));have U:=ou (vF m (zS j ai));refine ⟨J,Int.lt_of_lt_of_le U ?_⟩;rw[kV];obtain ⟨k,hk⟩:∃k,m=min m (L.drop j).length+k:=⟨m - min m (L.drop j).length,D⟩
 conv=>rhs;rw[hk,ym]
 have a:=l9 (min m (L.drop j).length);have b:=l9 k
 calc ck (min m (L.drop j).length)=ck (min m (L.drop j).length)*1:=D
  _<=_:=nz b D
theorem asV{L:List Int}{j n:Nat}(a5:2<=n)(h:j+n<L.length)(aY:a0 (L.drop (j+n+1))=0):
  a0 (L.drop j)=ck (n - 2)*((L.getD (j+n) 0*1000000000+L.getD (j+n - 1) 0)*1000000000+L.getD (j+n - 2) 0)+a0 ((L.drop j).take (n - 2)):=by
 rw[ve L j (n - 2) D,show j+(n - 2)=j+n - 2 by omega,mU L (i:=j+n - 2) D,show j+n - 2+1=j+n - 1 by omega,mU L (i:=j+n - 1) D,show j+n - 1+1=j+n by omega,mU L (i:=j+n) h,aY]
 grind
theorem asU{L:List Int}{n:Nat}(a5:2<=n)(h:n<=L.length)(aY:a0 (L.drop n)=0):
  a0 L=ck (n - 2)*(L.getD (n - 1) 0*1000000000+L.getD (n - 2) 0)+a0 ((L.drop 0).take (n - 2)):=by
 have:=ve L 0 (n - 2) D;rw[gD,mU L (i:=n - 2) D,show n - 2+1=n - 1 by omega,mU L (i:=n - 1) D,show n - 1+1=n by omega,aY,h5]at this;rw[h5,this]
 grind
theorem ar3{u g v c:Int}(hu:0<=u∧u<1000000000)(au:0<=g)(si:g<=1000000000)(ad:0<=v∧v<1000000000)(aa:0<=c)(lM:c<=1000000000)(vY:u - g*v - c<0):
  0<=(u - g*v - c)+(-(u - g*v - c)+999999999) / 1000000000*1000000000∧(u - g*v - c)+(-(u - g*v - c)+999999999) / 1000000000*1000000000<1000000000∧0<=(-(u - g*v - c)+999999999) / 1000000000∧(-(u - g*v - c)+999999999) / 1000000000<=1000000000∧0<=g*v∧g*v<=999999999000000000:=by
 have J:0<=g*v:=wQ au ad.1;have U:g*v<=1000000000*v:=x8 si ad.1;generalize g*v=m at*;omega
structure qp(s t:S)(jG bv ht:Nat)(b3 V Q:List Int):Prop where
 l:Loc s t
 u:∃bx,dN s t jG (fp b3) 3 bx
 v:∃bx,dN s t bv (fp V) 3 bx
 q:∃bx,dN s t ht (fp Q) 3 bx
 d1:jG≠bv
 d2:jG≠ht
 d3:bv≠ht
section
variable {s t:S}{jG bv ht:Nat}{b3 V Q:List Int}
theorem abo{b:Nat}{L:List Int}{bx:Bool}(h:dN s t b (fp L) 3 bx){j:Nat}(aG:j<L.length):cZ t (.ptr b j)=some (.int .i64 (L.getD j 0)):=by
 rw[nk h.rd (by simpa using aG),C4 _ aG]
theorem qp.DA(h:qp s t jG bv ht b3 V Q){j:Nat}(aG:j<b3.length):cZ t (.ptr jG j)=some (.int .i64 (b3.getD j 0)):=let ⟨_,h⟩:=h.u;abo h aG
theorem qp.gM(h:qp s t jG bv ht b3 V Q){j:Nat}(aG:j<V.length):cZ t (.ptr bv j)=some (.int .i64 (V.getD j 0)):=let ⟨_,h⟩:=h.v;abo h aG
theorem qp.Hc(h:qp s t jG bv ht b3 V Q){j:Nat}(aG:j<b3.length)(x:Int):∃t',c6 t (ef 1 (.ptr jG j) (.int .i64 x) (aN t))=some (.bad,t')∧qp s t' jG bv ht (b3.set j x) V Q:=by
 obtain ⟨Z,⟨bx,hu⟩,⟨SU,ad⟩,⟨aru,a7⟩,d1,d2,d3⟩:=h;obtain ⟨t',aC,bb,bk,aB,_⟩:=hu.u7 Z (j:=j) (x:=.int .i64 x) (by simpa using aG) rfl;rw[<-q4]at bb;exact ⟨t',aC,bk,⟨_,bb⟩,⟨_,ad.a1 aB (by simp;exact λe=>d1 e.symm)⟩,⟨_,a7.a1 aB (by simp;exact λe=>d2 e.symm)⟩,d1,d2,d3⟩
theorem qp.asY(h:qp s t jG bv ht b3 V Q){j:Nat}(aG:j<Q.length)(x:Int):∃t',c6 t (ef 1 (.ptr ht j) (.int .i64 x) (aN t))=some (.bad,t')∧qp s t' jG bv ht b3 V (Q.set j x):=by
 obtain ⟨Z,⟨bx,hu⟩,⟨SU,ad⟩,⟨aru,a7⟩,d1,d2,d3⟩:=h;obtain ⟨t',aC,bb,bk,aB,_⟩:=a7.u7 Z (j:=j) (x:=.int .i64 x) (by simpa using aG) rfl;rw[<-q4]at bb;exact ⟨t',aC,bk,⟨_,hu.a1 aB (by simp;exact d2)⟩,⟨_,ad.a1 aB (by simp;exact d3)⟩,⟨_,bb⟩,d1,d2,d3⟩
end
theorem tB{b l c:Nat}{k:IntKind}{i:Int}(aR:0<=i)(J:i<l):dW 1 (.bx b 0 l c 1) (.int k i)=some (.ptr b i.toNat):=by
 rw[px k aR J,gD,ox]
theorem aoH{b3 ak:List Int}{j n:Nat}{V g:Int}(Z:ak.length=b3.length)(FH:j+n<b3.length)(ih:ak.take j=b3.take j)(jw:ak.drop (j+n+1)=b3.drop (j+n+1))(aY:a0 (b3.drop (j+n+1))=0)
  (ai:∀p,p<j+n->0<=ak.getD p 0∧ak.getD p 0<1000000000) (ad:a0 ak=a0 b3 - ck j*(g*V)) (aR:g*V<=a0 (b3.drop j)) (J:a0 (b3.drop j)<(g+1)*V) (jX:V<=ck n):
  ak.getD (j+n) 0=0∧a0 (ak.drop j)<V:=by
 have aC:=rW b3 j D;have ba:=rW ak j D;have P3:=l9 j;have cd:ck j*a0 (ak.drop j)=ck j*(a0 (b3.drop j) - g*V):=by
  rw[ih]at ba;rw[Int.mul_sub];omega
 have ff:a0 (ak.drop j)=a0 (b3.drop j) - g*V:=Int.eq_of_mul_eq_mul_left D cd;have h0:=ve ak j n D;have jT:=mU ak (i:=j+n) D;rw[jw,aY,nZ,q0]at jT;rw[jT]at h0;have uI:ea ((ak.drop j).take n):=by
  intro x hx;obtain ⟨i,hi⟩:=sO hx;have tn:i<n:=by
   have:=(nX.1 hi).1;rw[kV]at this;omega
  rw[Bs,if_pos tn,Bt]at hi;have:=ai (j+i) D;rw[ir,hi]at this;exact this
 have aj:=nw uI;have aH:=ou uI;have bD:ck ((ak.drop j).take n).length=ck n:=by
  congr 1;rw[kV,r2];omega
 rw[bD]at aH;have b6:a0 (ak.drop j)<V:=by rw[vp]at J;omega
 refine ⟨?_,b6⟩;have z7:=l9 n;generalize ak.getD (j+n) 0=x at*;rcases (show x=0∨1<=x∨x<= -1 by omega) with h|h|h
 exact h;have:ck n*1<=ck n*x:=nz h D;omega;have:ck n*x<=ck n*(-1):=nz h D;omega
theorem aoM{b3 ak:List Int}{j:Nat}{aQ:Int}(Z:ak.length=b3.length)(aG:j<=b3.length)(ih:ak.take j=b3.take j)(ad:a0 ak=a0 b3 - ck j*aQ):a0 (ak.drop j)=a0 (b3.drop j) - aQ:=by
 have aC:=rW b3 j aG;have ba:=rW ak j D;have P3:=l9 j;have cd:ck j*a0 (ak.drop j)=ck j*(a0 (b3.drop j) - aQ):=by
  rw[ih]at ba;rw[Int.mul_sub];omega
 exact Int.eq_of_mul_eq_mul_left D cd
theorem aoK{ak:List Int}{j n:Nat}(FH:j+n<ak.length)(aY:a0 (ak.drop (j+n+1))=0)(ai:∀p,p<j+n->0<=ak.getD p 0∧ak.getD p 0<1000000000):
  (0<=ak.getD (j+n) 0->0<=a0 (ak.drop j))∧(ak.getD (j+n) 0<0->a0 (ak.drop j)<0):=by
 have h0:=ve ak j n D;have jT:=mU ak (i:=j+n) D;rw[aY,nZ,q0]at jT;rw[jT]at h0;have uI:ea ((ak.drop j).take n):=by
  intro x hx;obtain ⟨i,hi⟩:=sO hx;have tn:i<n:=by
   have:=(nX.1 hi).1;rw[kV]at this;omega
  rw[Bs,if_pos tn,Bt]at hi;have:=ai (j+i) D;rw[ir,hi]at this;exact this
 have aj:=nw uI;have aH:=ou uI;have bD:ck ((ak.drop j).take n).length=ck n:=by
  congr 1;rw[kV,r2];omega
 rw[bD]at aH;have z7:=l9 n;constructor;intro h;have:0<=ck n*ak.getD (j+n) 0:=wQ D h;omega;intro h;have:ck n*ak.getD (j+n) 0<=ck n*(-1):=nz D D;omega
theorem XU{L:List Int}(h:∀p,p<L.length->0<=L.getD p 0∧L.getD p 0<1000000000):ea L:=by
 intro x hx;obtain ⟨i,hi⟩:=sO hx;have:=h i (nX.1 hi).1;rw[ir,hi]at this;exact this
theorem xe{L M:List Int}{a p:Nat}(h:L.drop a=M.drop a)(al:a<=p):L.getD p 0=M.getD p 0:=by
 have:=congrArg (λl=>l[p - a]?) h;simp only[Bt,show a+(p - a)=p by omega]at this;rw[ir,ir,this]
theorem JY{L M:List Int}{a b:Nat}(h:L.drop a=M.drop a)(Y:a<=b):L.drop b=M.drop b:=by
 have:=congrArg (List.drop (b - a)) h;rw[vk,vk,show a+(b - a)=b by omega]at this;exact this
theorem adl{L:List Int}{j:Nat}{x:Int}(h:j<L.length):(L.set j x).getD j 0=x:=by simp[ir,Bo,h]
end
theorem aaT{s:S}{P:V->Prop}{k:List V->S->ax}{c:(List V->S->ax)->ax}(I:List V->S->Prop)(hk:∀vs t,I vs t->eE s P (k vs t))(aa:∀j:List V->S->ax,(∀vs t,I vs t->eE s P (j vs t))->eE s P (c j)):eE s P (aw k c):=aa k hk
theorem adw{b l c:Nat}{n:Nat}(h:n<=c):jn 1 (.bx b 0 l c 1) none (some (.int .i64 n)) none=some (.bx b 0 n c 1):=by
 have J:bound (some (.int .i64 (n:Int))) c l=some n:=by rw[ur D D,dZ]
 have aj:Nat.ble n c=true:=by rw[eu];exact h
 unfold jn;simp only[show bound none c c=some c from rfl,J,show bound none n 0=some 0 from rfl,aj];rfl
def agU(X bJ:Nat)(r:V):Prop:= ∃q l r' sA,r=.da [q,r']∧bV .i64 q l∧l.length<=1000001∧bV .i64 r' sA∧ea sA∧a0 sA=((X % bJ:Nat):Int)∧sA.length<=1000000
set_option maxHeartbeats 4000000 in
theorem aim{v w:V}{X bJ:Nat}(ad:bV .i64 v (aL X))(hw:bV .i64 w (aL bJ))(a5:2<=(aL bJ).length)(hle:(aL bJ).length<=(aL X).length)(Z:(aL X).length<=1000000):h6 a9 219 [v,w] (agU X bJ):=λs ae=>
 (agc (cv aS)).kQ 1000000010 (by
  show eE s _ (NR a9 _ v w s);unfold NR;simp only[cw];generalize eO:1000000010=F;have F4:=gq X;have CY:=gq bJ;have Fw:=gK X;have Fx:=gK bJ;have au7:=abO bJ (List.ne_nil_of_length_pos D);generalize gW:aL X=A at*;generalize fE:aL bJ=g5 at*;have vQ:=jt Fx (g5.length - 1);have alk:((g5.length:Int) - 1).toNat=g5.length - 1:=D;obtain ⟨mm,yZ,v3⟩:=aoJ (b:=g5.getD (g5.length - 1) 0) D D;have au5:1000000000 / (g5.getD (g5.length - 1) 0+1)<=500000000:=by
   have:=Int.ediv_lt_of_lt_mul (a:=1000000000) (b:=500000001) (c:=g5.getD (g5.length - 1) 0+1) D D;omega
  simp (disch:=omega) only[cW,st,bg,e2,hw.len,bT,hw.c1,hb,alk];have alA:(bJ:Int)<ck (g5.length - 1)*(g5.getD (g5.length - 1) 0+1):=by
   have J:=ve g5 0 (g5.length - 1) D;have U:=(wF Fx 0 (g5.length - 1)).2;rw[gD,mU g5 (i:=g5.length - 1) D,pb (show g5.length<=g5.length - 1+1 by omega),show a0 []=0 from rfl,nZ,q0,h5,CY]at J;rw[h5]at U;rw[qZ,Int.mul_one];omega
  have at3:ck (g5.length - 1)*1<=bJ:=by
   have J:=ve g5 0 (g5.length - 1) D;have U:=(wF Fx 0 (g5.length - 1)).1;rw[gD,mU g5 (i:=g5.length - 1) D,pb (show g5.length<=g5.length - 1+1 by omega),show a0 []=0 from rfl,nZ,q0,h5,CY]at J;rw[h5]at U;have:ck (g5.length - 1)*1<=ck (g5.length - 1)*g5.getD (g5.length - 1) 0:=nz D (by have:=l9 (g5.length - 1);omega);omega
  have alx:(X:Int)<ck A.length:=by rw[<-F4];exact ou Fw
  generalize y0:1000000000 / (g5.getD (g5.length - 1) 0+1)=c0 at*;obtain ⟨kW,⟨aci,acj,avC⟩,u,t1,J,f1,dm,dR,e6,dj⟩:=JJ (Loc.refl ae) (by simp only[gS,pM,dz.ep ad];rfl) (Xp (k:=c0) ad Fw D D D);obtain ⟨fI,⟨wx,Dp,avD⟩,avZ,t2,U,f2,fg,dF,fo,dL⟩:=JJ dR (by simp only[gS,pM,dz.ep hw];rfl) (Xp (k:=c0) hw Fx D D D);have AS:=dm.a1 fo (λ_ _=>by simp);obtain ⟨jG,rfl,_⟩:=dm.So .i64 (i:=0) D D;obtain ⟨bv,rfl,_⟩:=fg.So .i64 (i:=0) D D;have aub:=dj jG (by simp[b4]);have auc:=(dm.lo (b:=jG) (by simp[b4])).2;have Zs:=dL bv (by simp[b4]);have aud:=(fg.lo (b:=bv) (by simp[b4])).2;have sr:jn 1 (.bx bv 0 fI.length fI.length 1) none (some (.int .i64 (g5.length:Int))) none=some (.bx bv 0 g5.length fI.length 1):=adw D;simp (disch:=omega) only[f1,e2,f2,hw.len,sr];refine lb (ES (by repeat' first|exact trivial|apply iE.eY)) ?_;obtain ⟨sF,t3,cd,fy,dM,bp,vB⟩:=Gp (T:=types) (t:=22) (ti:=zl) (te:=g3) (x:=.int .i64 0) (n:=(A.length:Int) - g5.length+1) dF rfl rfl rfl rfl rfl D (by rw[show g3.bytes=8 from rfl];omega) D;obtain ⟨ht,rfl,_⟩:=fy.So .i64 (i:=0) D D;have Ft:=vB ht (by simp[b4]);obtain ⟨gB,amD⟩:∃n:Nat,n=A.length - g5.length+1:=⟨_,rfl⟩;rw[show ((A.length:Int) - g5.length+1).toNat=gB by omega]at fy cd;rw[<-BE]at fy;simp (disch:=omega) only[st,bg,hw.len,ad.len,bT,cd];have ala:qp s t3 jG bv ht kW fI (List.replicate gB 0):=by
   refine ⟨dM,?_,?_,?_,D,D,D⟩
   ·have:=AS.a1 bp (λ_ _=>by simp);cases this with|cc _ _ _ bw h _=>exact ⟨bw,h⟩
   ·have:=fg.a1 bp (λ_ _=>by simp);cases this with|cc _ _ _ bw h _=>exact ⟨bw,h⟩
   ·cases fy with|cc _ _ _ bw h _=>exact ⟨bw,h⟩
  rw[F4]at acj;rw[CY]at Dp;generalize Ao:g5.length=n at*;have Kz:a0 (fI.drop n)=0:=by
   have J:=ve fI 0 n D;have U:=(wF wx 0 n).1;rw[gD,h5,Dp]at J;rw[h5]at U;have aj:=nw (zS n wx);have aH:(bJ:Int)*c0<ck n:=by
    have bD:(bJ:Int)*c0<ck (n - 1)*(g5.getD (n - 1) 0+1)*c0:=Int.mul_lt_mul_of_pos_right alA D;have cF:ck (n - 1)*((g5.getD (n - 1) 0+1)*c0)<=ck (n - 1)*1000000000:=nz (by rw[oA];exact v3) (by have:=l9 (n - 1);omega);have dV:=sb (n - 1);rw[show n - 1+1=n by omega]at dV;rw[wR]at bD;omega
   rcases (show a0 (fI.drop n)=0∨1<=a0 (fI.drop n) by omega) with h|h
   exact h;have:ck n*1<=ck n*a0 (fI.drop n):=nz h (by have:=l9 n;omega);omega
  have PU:a0 (fI.take n)=a0 fI:=by
   have:=rW fI n D;rw[Kz,nZ,q0]at this;exact this.symm
  have at0:a0 fI<ck n:=by
   rw[<-PU];have:=(wF wx 0 n).2
   rwa [h5]at this
  have Fq:=asU a5 (L:=fI) D Kz;have avb:=jt wx (n - 1);have Lm:=jt wx (n - 2);have y4:=wF wx 0 (n - 2);have nN:=l9 (n - 2);have aua:ck (n - 1)=1000000000*ck (n - 2):=by
   have:=sb (n - 2)
   rwa [show n - 2+1=n - 1 by omega]at this
  have CX:500000000<=fI.getD (n - 1) 0:=by
   have J:ck (n - 1)*g5.getD (n - 1) 0<=bJ:=by
    have J:=ve g5 0 (n - 1) D;have U:=(wF Fx 0 (n - 1)).1;rw[gD,mU g5 (i:=n - 1) D,pb (show g5.length<=n - 1+1 by omega),show a0 []=0 from rfl,nZ,q0,h5,CY]at J;rw[h5]at U;omega
   have U:ck (n - 1)*g5.getD (n - 1) 0*c0<=bJ*c0:=x8 J D;have aj:ck (n - 1)*500000000<=ck (n - 1)*(g5.getD (n - 1) 0*c0):=nz (by rw[oA];exact mm) (by have:=l9 (n - 1);omega);rw[wR]at U;rcases (show 500000000<=fI.getD (n - 1) 0∨fI.getD (n - 1) 0+1<=500000000 by omega) with h|h
   exact h;have aH:ck (n - 1)*(fI.getD (n - 1) 0+1)<=ck (n - 1)*500000000:=nz h (by have:=l9 (n - 1);omega);have bD:=ve fI 0 (n - 1) D;have cF:=(wF wx 0 (n - 1)).2;rw[gD,mU fI (i:=n - 1) D,show n - 1+1=n by omega,Kz,nZ,q0,h5,Dp]at bD;rw[h5]at cF;rw[qZ,Int.mul_one]at aH;omega
  generalize alu:a0 fI=lI at*;have atZ:0<lI:=by rw[Dp];exact Int.mul_pos (by have:=l9 (n - 1);omega) D
  generalize Ll:fI.getD (n - 1) 0=v1 at*;generalize Rf:fI.getD (n - 2) 0=v2 at*;have YU:1000000000*ck (n - 2)<=lI:=by
   rw[Fq];have:ck (n - 2)*1000000000<=ck (n - 2)*(v1*1000000000+v2):=nz D D;omega
  have at2:ck (n - 1)*c0<=lI:=by
   rw[Dp];exact x8 D D
  have alv:a0 (kW.drop (A.length - n+1))<lI:=by
   have J:=rW kW (A.length - n+1) D;have U:=nw (vF (A.length - n+1) aci);have aj:(X:Int)*c0<ck A.length*c0:=Int.mul_lt_mul_of_pos_right alx D;have aH:=ym (A.length - n+1) (n - 1);rw[show A.length - n+1+(n - 1)=A.length by omega]at aH;rw[aH,wR]at aj;rcases (show a0 (kW.drop (A.length - n+1))<lI∨lI<=a0 (kW.drop (A.length - n+1)) by omega) with h|h
   exact h;have:ck (A.length - n+1)*(ck (n - 1)*c0)<=ck (A.length - n+1)*a0 (kW.drop (A.length - n+1)):=nz D (by have:=l9 (A.length - n+1);omega);omega
  have Kx:((n:Int) - 1).toNat=n - 1:=D;have PS:((n:Int) - 2).toNat=n - 2:=D;refine jO (eE s _) (λk vs t=> ∃b3 Q:List Int,vs=[.int .i64 ((k:Int) - 1),.bx bv 0 n fI.length 1,.bx jG 0 kW.length kW.length 1,.int .i64 n,.int .i64 c0,.bx ht 0 gB gB 1]∧qp s t jG bv ht b3 fI Q∧ea b3∧b3.length=kW.length∧Q.length=gB∧
   lI ∣ a0 b3 - X*c0∧a0 (b3.drop (k+n))=0∧a0 (b3.drop k)<lI∧k+n<=kW.length) ?_ _ (A.length - n+1) _ _
   ⟨kW,List.replicate gB 0,by rw[show (((A.length - n+1:Nat):Int) - 1)=(A.length:Int) - n by omega],ala,aci,rfl,vo,by rw[acj,Int.sub_self];exact Int.dvd_zero _,by rw[pb D];rfl,alv,D⟩ D
  rintro a3 k _ t ⟨b3,Q,rfl,gn,uG,atY,qA,KO,y8,Za,auE⟩ cR;by_cases hk:k=0
  ·subst hk;have anh:jn 1 (.bx jG 0 kW.length kW.length 1) none (some (.int .i64 (n:Int))) none=some (.bx jG 0 n kW.length 1):=adw D;simp (disch:=omega) only[cW,st,bg,anh];obtain ⟨arE,hu⟩:=gn.u;have hlen:(b3.take n).length=n:=by rw[kV];omega
   have ak8:bV .i64 (.fs (fp (b3.take n)) n) (b3.take n):=by
    have:=bV.mk .i64 (b3.take n)
    rwa [hlen]at this
   have ak3:gz (aN t) [.bx jG 0 n kW.length 1,.int .i64 c0] [.fs (fp (b3.take n)) n,.int .i64 c0] ([jG]++ []) (mark [jG] (aN t)):=
    .cons _ _ _ _ _ _ _ _ (.one _ _ _ (.bx jG 0 n kW.length 1 (fp b3) _ 3 arE true hu.get D (by simp;omega) (by rw[h5,ox];exact List.map_take.symm) (lR _ _))) (gz.q8 _ rfl)
   obtain ⟨r,⟨q',l,rfl,kK,fF,y4,nb⟩,t4,ff,eU,eh,o0,_⟩:=Ca (aP:=false) (st:=false) gn.l ak3 (λb Y=>by simp only[hd,iu]at Y;subst Y;exact hu.lo) (λh=>by cases h) (Xo ak8 (vF n uG) (show 0<c0 by omega) D (by rw[hlen];omega));simp (disch:=omega) only[cW,st,ff];obtain ⟨arD,a7⟩:=gn.q;have amX:=a7.a1 eh (by simp;exact λe=>gn.d2 e.symm);have alO:=a7.lo;have ak2:pQ t4 (.bx ht 0 gB gB 1) (.fs (fp Q) gB) [ht]:=.bx ht 0 gB gB 1 (fp Q) _ 3 arD true amX.get (cg _) (by simp;omega) (by rw[h5,l2 (by simp;omega)]) (lR _ _);have alf:bV .i64 (.fs (fp Q) gB) Q:=by
    have:=bV.mk .i64 Q
    rwa [qA]at this
   refine ⟨_,⟨_,Q,q',l,rfl,alf,D,kK,fF,?_,by rw[nb,hlen];omega⟩,E6 (l:=[.bx ht 0 gB gB 1,q']) (l':=[.fs (fp Q) gB,q']) (bs:=[ht]++([]++ [])) (.cons _ _ _ _ _ _ (.one _ _ _ ak2) (.cons _ _ _ _ _ _ (.one _ _ _ (.at _ kK.atom)) .nil)) (by simp) ae eU (λb Y=>by simp only[hd,iu]at Y;subst Y;exact alO)⟩;have pn:a0 (b3.take n)=a0 b3:=by
    have:=rW b3 n D;rw[gD]at y8;rw[y8,nZ,q0]at this;exact this.symm
   rw[h5]at Za;have alp:=nw uG;rw[y4,pn];have J:a0 b3 % lI=((X:Int)*c0) % lI:=Int.emod_eq_emod_iff_emod_sub_eq_zero.2 (Int.emod_eq_zero_of_dvd KO);rw[Int.emod_eq_of_lt alp Za,Dp,oA _ c0,oA _ c0,Int.mul_emod_mul_of_pos _ _ D]at J;rw[J,Int.mul_ediv_cancel_left _ D,<-zy]
  ·obtain ⟨j,rfl⟩:∃j,k=j+1:=⟨k - 1,D⟩;clear hk;rw[show ((j+1:Nat):Int) - 1=j by omega];have FH:j+n<b3.length:=D;rw[show j+1+n=j+n+1 by omega]at y8;have Lp:=asV a5 FH y8;have au9:=jt uG (j+n);have aar:=jt uG (j+n - 1);have aas:=jt uG (j+n - 2);have au8:=jt uG j;have CV:=wF uG j (n - 2);have atX:a0 (b3.drop j)<1000000000*lI:=by
    rw[mU b3 (i:=j) D];omega
   have ava:b3.getD (j+n) 0<=v1:=by
    have J:=ve b3 (j+1) (n - 1) D;have U:=(wF uG (j+1) (n - 1)).1;rw[show j+1+(n - 1)=j+n by omega,mU b3 (i:=j+n) FH,y8,nZ,q0]at J;have aj:=ve fI 0 (n - 1) D;have aH:=(wF wx 0 (n - 1)).2;rw[gD,mU fI (i:=n - 1) D,show n - 1+1=n by omega,Kz,nZ,q0,h5,alu,Ll]at aj;rw[h5]at aH;rcases (show b3.getD (j+n) 0<=v1∨v1+1<=b3.getD (j+n) 0 by omega) with h|h
    exact h;have bD:ck (n - 1)*(v1+1)<=ck (n - 1)*b3.getD (j+n) 0:=nz h (by have:=l9 (n - 1);omega);rw[qZ,Int.mul_one]at bD;omega
   have Fp:((j:Int)+n).toNat=j+n:=D;have Y6:((j:Int)+n - 1).toNat=j+n - 1:=D;have PR:((j:Int)+n - 2).toNat=j+n - 2:=D;have yX:=λ{p:Nat} (al:p<b3.length)=>gn.DA al;have tv:=λ{p:Nat} (al:p<fI.length)=>gn.gM al;simp (disch:=omega) only[cW,st,bg,tB,bT,Fp,Y6,Kx];have alm:b3.getD (j+n) 0*1000000000+b3.getD (j+n - 1) 0<(1000000000+2)*v1:=D;have aum:(b3.getD (j+n) 0*1000000000+b3.getD (j+n - 1) 0) / v1<1000000000+2:=Int.ediv_lt_of_lt_mul D alm;have ZI:0<=(b3.getD (j+n) 0*1000000000+b3.getD (j+n - 1) 0) / v1:=Int.ediv_nonneg D D;have tt:=zw (b3.getD (j+n) 0*1000000000+b3.getD (j+n - 1) 0) (show v1≠0 by omega);have nO:=zv (b3.getD (j+n) 0*1000000000+b3.getD (j+n - 1) 0) (show 0<v1 by omega);have ru:=Ho (b3.getD (j+n) 0*1000000000+b3.getD (j+n - 1) 0) v1;simp (disch:=omega) only[st,bg,tB,bT,Fp,Y6,Kx,yX,tv,Ll];generalize atW:b3.getD (j+n) 0*1000000000+b3.getD (j+n - 1) 0=T at*;rw[oA]at ru;refine aaT (λvs t'=> ∃g:Int,vs=[.int .i64 g,.int .i64 j,.bx bv 0 n fI.length 1,.bx jG 0 kW.length kW.length 1,.int .i64 n,.int .i64 c0,.bx ht 0 gB gB 1]∧t=t'∧0<=g∧g<=1000000000∧g*lI<=a0 (b3.drop j)+lI∧a0 (b3.drop j)<(g+1)*lI) ?_ ?_
   rotate_left
   ·
    intro avi ZU;refine jO (eE s _) (λm vs t'=> ∃g r:Int,vs=[.int .i64 r,.int .i64 g,.int .i64 j,.bx bv 0 n fI.length 1,.bx jG 0 kW.length kW.length 1,.int .i64 n,.int .i64 c0,.bx ht 0 gB gB 1]∧t=t'∧0<=g∧g<=1000000001∧0<=r∧r<1000000000∧g*v1+r=T∧a0 (b3.drop j)<(g+1)*lI∧(m:Int)=g) ?_ _ (T / v1).toNat _ _
     ⟨T / v1,T % v1,rfl,rfl,ZI,D,tt,D,ru,abg Lp Fq D y4.1 nN D (aoI ru nO D Lm.1 ZI),D⟩ D
    rintro xE m _ _ ⟨g,r,rfl,rfl,yO,Qr,au0,au1,ZJ,alq,hm⟩ lO;rcases (show (1000000000<=g)∨(g<1000000000∧r*1000000000+b3.getD (j+n - 2) 0<g*v2)∨(g<1000000000∧ ¬r*1000000000+b3.getD (j+n - 2) 0<g*v2) by omega) with h|⟨h,h'⟩|⟨h,h'⟩
    rotate_right
    have vX:=Gs (a:=g) (b:=v2) ⟨yO,h⟩ Lm;have hex:=abe (ej:=b3.getD (j+n - 2) 0) ZJ (show g*v2<=r*1000000000+b3.getD (j+n - 2) 0 by omega);have jw:=abf Lp Fq CV.1 y4.1 y4.2 yO D YU hex;simp (disch:=omega) only[cW,st,bg,tB,bT,PS,PR,yX,tv,Rf];exact ZU _ _ ⟨g,rfl,rfl,yO,D,jw,alq⟩;all_goals
     have PT:a0 (b3.drop j)<g*lI:=by
      first
       |(
        have J:1000000000*lI<=g*lI:=x8 h D;omega)
       |exact abg Lp Fq D y4.1 nN yO (aoL ZJ h')
     have auq:1<=g:=by
      rcases (show g=0∨1<=g by omega) with aR|aR
      rw[aR,Int.zero_mul]at PT;have:=nw (zS j uG);omega;exact aR
     have ZK:(g - 1)*v1+(r+v1)=T:=by rw[Int.sub_mul,Int.one_mul];omega
     have vX:g<1000000000->0<=g*v2∧g*v2<=999999998000000001:=λh=>Gs ⟨yO,h⟩ Lm;try have Z4:=vX h
     by_cases QZ:1000000000<=r+v1;have Z5:(g - 1)*v2<=1000000000*v2:=x8 D Lm.1;have hex:=abe (ej:=b3.getD (j+n - 2) 0) ZK (show (g - 1)*v2<=(r+v1)*1000000000+b3.getD (j+n - 2) 0 by omega);have jw:=abf Lp Fq CV.1 y4.1 y4.2 (show 0<=g - 1 by omega) D YU hex;simp (disch:=omega) only[cW,st,bg,tB,bT,Kx,PS,PR,yX,tv,Ll,Rf];exact ZU _ _ ⟨g - 1,rfl,rfl,D,D,jw,by rw[show g - 1+1=g by omega];exact PT⟩;simp (disch:=omega) only[cW,st,bg,tB,bT,Kx,PS,PR,yX,tv,Ll,Rf];exact lO (g - 1).toNat _ _ D ⟨g - 1,r+v1,rfl,rfl,D,D,D,D,ZK,by rw[show g - 1+1=g by omega];exact PT,D⟩
   rintro _ _ ⟨g,rfl,rfl,yO,Qr,auo,ami⟩;simp (disch:=omega) only[cW,st];refine jO (eE s _) (λm vs t'=> ∃(W:List Int) (i:Nat) (c:Int),vs=[.int .i64 i,.int .i64 n,.int .i64 c,.int .i64 g,.int .i64 j,.bx bv 0 n fI.length 1,.bx jG 0 kW.length kW.length 1,.int .i64 n,.int .i64 c0,.bx ht 0 gB gB 1]∧qp s t' jG bv ht W fI Q∧
    ea W∧W.length=b3.length∧0<=c∧c<=1000000000∧a0 W=a0 b3+ck j*(ck i*c - g*a0 (fI.take i))∧W.take j=b3.take j∧W.drop (j+i)=b3.drop (j+i)∧i+m=n) ?_ _ n _ _
    ⟨b3,0,0,rfl,gn,uG,rfl,vn _,aS,by rw[sP,show a0 []=0 from rfl,nZ,nZ,Int.sub_self,nZ,q0],rfl,rfl,gD _⟩ D
   rintro avf m _ t5 ⟨W,i,c,rfl,Fo,Qb,m7,uF,hB,Rg,Zb,KA,ams⟩ ZQ;have Q3:=λ{p:Nat} (al:p<W.length)=>Fo.DA al;have aap:=λ{p:Nat} (al:p<fI.length)=>Fo.gM al;by_cases hi:i<n;have Y7:((i:Int)+j).toNat=j+i:=D;have F3:W.getD (j+i) 0=b3.getD (j+i) 0:=xe KA (cg _);have aat:=jt Qb (j+i);have Ln:=jt wx i;have aup:0<=g*fI.getD i 0∧g*fI.getD i 0<=999999999000000000:=by
    have J:0<=g*fI.getD i 0:=wQ yO Ln.1;have U:g*fI.getD i 0<=1000000000*fI.getD i 0:=x8 Qr Ln.1;omega
   have v5:∀(d bj:Int),0<=d->d<1000000000->d=W.getD (j+i) 0 - g*fI.getD i 0 - c+bj*1000000000->
     ea (W.set (j+i) d)∧a0 (W.set (j+i) d)=a0 b3+ck j*(ck (i+1)*bj - g*a0 (fI.take (i+1)))∧(W.set (j+i) d).take j=b3.take j∧(W.set (j+i) d).drop (j+(i+1))=b3.drop (j+(i+1)):=by
    intro d bj Fv vR g1;refine ⟨xd Qb _ ⟨Fv,vR⟩,?_,?_,?_⟩;rw[rX _ _ _ D,Rg,qT,ym,sb,g1]
    grind
    rw[M5 D];exact Zb;rw[Bv D];exact JY KA D
   by_cases vY:W.getD (j+i) 0 - g*fI.getD i 0 - c<0;obtain ⟨d1,d2,d3,d4,_,_⟩:=ar3 (u:=W.getD (j+i) 0) (g:=g) (v:=fI.getD i 0) (c:=c) aat yO Qr Ln uF hB vY;have ph:0 - (W.getD (j+i) 0 - g*fI.getD i 0 - c)+1000000000 - 1= -(W.getD (j+i) 0 - g*fI.getD i 0 - c)+999999999:=D;obtain ⟨t6,cF,z2⟩:=Fo.Hc (j:=j+i) D (W.getD (j+i) 0 - g*fI.getD i 0 - c+(-(W.getD (j+i) 0 - g*fI.getD i 0 - c)+999999999) / 1000000000*1000000000);simp (disch:=omega) only[cW,st,bg,tB,bT,Y7,dZ,Q3,aap,G6,ph,cF];obtain ⟨cL,cS,ds,gw⟩:=v5 _ _ d1 d2 rfl;exact ZQ (m - 1) _ _ D ⟨_,i+1,_,rfl,z2,cL,by rw[oC];exact m7,d3,d4,cS,ds,gw,D⟩;obtain ⟨t6,cF,z2⟩:=Fo.Hc (j:=j+i) D (W.getD (j+i) 0 - g*fI.getD i 0 - c);simp (disch:=omega) only[cW,st,bg,tB,bT,Y7,dZ,Q3,aap,cF];obtain ⟨cL,cS,ds,gw⟩:=v5 (W.getD (j+i) 0 - g*fI.getD i 0 - c) 0 D D D;exact ZQ (m - 1) _ _ D ⟨_,i+1,0,rfl,z2,cL,by rw[oC];exact m7,D,D,cS,ds,gw,D⟩;have tn:i=n:=D;subst tn;rw[PU]at Rg;have Zc:W.getD (j+i) 0=b3.getD (j+i) 0:=xe KA (cg _);obtain ⟨t6,cF,z2⟩:=Fo.Hc (j:=j+i) D (b3.getD (j+i) 0 - c);have y3:a0 (W.set (j+i) (b3.getD (j+i) 0 - c))=a0 b3 - ck j*(g*lI):=by
    rw[rX _ _ _ D,Rg,Zc,ym]
    grind
   have QG:(W.set (j+i) (b3.getD (j+i) 0 - c)).take j=b3.take j:=by rw[M5 D];exact Zb
   have Qu:(W.set (j+i) (b3.getD (j+i) 0 - c)).drop (j+i+1)=b3.drop (j+i+1):=by rw[Bv D];exact JY KA D
   have z9:∀p,p<j+i->0<=(W.set (j+i) (b3.getD (j+i) 0 - c)).getD p 0∧(W.set (j+i) (b3.getD (j+i) 0 - c)).getD p 0<1000000000:=λp al=>by
    rw[qz _ _ _ _ D];exact jt Qb p
   have Rb:(W.set (j+i) (b3.getD (j+i) 0 - c)).getD (j+i) 0=b3.getD (j+i) 0 - c:=adl D;have mj:(W.set (j+i) (b3.getD (j+i) 0 - c)).length=b3.length:=by rw[oC];exact m7
   generalize Y9:W.set (j+i) (b3.getD (j+i) 0 - c)=BR at*;have anq:=aoM mj D QG y3;have Q5:=aoK (ak:=BR) (j:=j) (n:=i) D (by rw[Qu];exact y8) z9;rw[Rb,anq]at Q5;have am9:=λ{p:Nat} (al:p<BR.length)=>z2.DA al;simp (disch:=omega) only[cW,st,bg,tB,bT,Fp];simp (disch:=omega) only[st,bg,tB,bT,Fp,Q3,Zc,cF,am9,Rb];refine aaT (λvs t'=> ∃(ak:List Int) (g0:Int),vs=[.int .i64 g0,.int .i64 j,.bx bv 0 i fI.length 1,.bx jG 0 kW.length kW.length 1,.int .i64 i,.int .i64 c0,.bx ht 0 gB gB 1]∧qp s t' jG bv ht ak fI Q∧ak.length=b3.length∧ak.take j=b3.take j∧ak.drop (j+i+1)=b3.drop (j+i+1)∧
    (∀p,p<j+i->0<=ak.getD p 0∧ak.getD p 0<1000000000)∧a0 ak=a0 b3 - ck j*(g0*lI)∧g0*lI<=a0 (b3.drop j)∧a0 (b3.drop j)<(g0+1)*lI) ?_ ?_
   rintro _ t7 ⟨ak,g0,rfl,CE,KE,KF,z6,CH,Zh,alB,alC⟩;obtain ⟨Zg,alD⟩:=aoH KE FH KF z6 y8 CH Zh alB alC D;obtain ⟨t8,fL,ak9⟩:=CE.asY (j:=j) D g0;simp (disch:=omega) only[cW,st,bg,tB,bT,dZ,fL];refine cR j _ _ D ⟨ak,_,rfl,ak9,?_,D,by rw[oC];exact qA,?_,?_,alD,D⟩;refine XU λp al=>?_;rcases (show p<j+i∨p=j+i∨j+i+1<=p by omega) with h|h|h
   exact CH p h;rw[h,Zg];omega;rw[xe z6 h];exact jt uG p;rw[Zh,show a0 b3 - ck j*(g0*lI) - (X:Int)*c0=(a0 b3 - X*c0) - lI*(ck j*g0) by grind];exact Int.dvd_sub KO (Int.dvd_mul_right _ _);rw[mU ak (i:=j+i) D,Zg,z6,y8];rfl;intro avh ZT;by_cases ann:b3.getD (j+i) 0 - c<0;have vY:=Q5.2 ann;simp (disch:=omega) only[cW,st,bg,bT];refine jO (eE s _) (λm vs t'=> ∃(ak:List Int) (i2:Nat) (cm:Int),vs=[.int .i64 i2,.int .i64 i,.int .i64 cm,.int .i64 (g - 1),.int .i64 j,.bx bv 0 i fI.length 1,.bx jG 0 kW.length kW.length 1,.int .i64 i,.int .i64 c0,.bx ht 0 gB gB 1]∧qp s t' jG bv ht ak fI Q∧
    ak.length=b3.length∧0<=cm∧cm<=1∧a0 ak=a0 BR+ck j*(a0 (fI.take i2) - ck i2*cm)∧ak.take j=b3.take j∧ak.drop (j+i2)=BR.drop (j+i2)∧(∀p,p<j+i->0<=ak.getD p 0∧ak.getD p 0<1000000000)∧i2+m=i) ?_ _ i _ _
    ⟨BR,0,0,rfl,z2,mj,vn _,aS,by rw[sP,show a0 []=0 from rfl,nZ,Int.sub_self,nZ,q0],QG,rfl,z9,gD _⟩ D
   rintro avg dF _ t9 ⟨ak,i2,cm,rfl,CE,KE,aue,auf,Rh,KF,z6,CH,auw⟩ amr;have aao:=λ{p:Nat} (al:p<ak.length)=>CE.DA al;have anb:=λ{p:Nat} (al:p<fI.length)=>CE.gM al;by_cases FD:i2<i;have aln:((i2:Int)+j).toNat=j+i2:=D;have aat:=CH (j+i2) D;have Ln:=jt wx i2;obtain ⟨t10,tf,PL⟩:=CE.Hc (j:=j+i2) D ((ak.getD (j+i2) 0+fI.getD i2 0+cm) % 1000000000);simp (disch:=omega) only[cW,st,bg,tB,bT,aln,dZ,aao,anb,tf];refine amr (dF - 1) _ _ D ⟨_,i2+1,(ak.getD (j+i2) 0+fI.getD i2 0+cm) / 1000000000,rfl,PL,by rw[oC];exact KE,D,D,?_,?_,?_,λp al=>?_,D⟩;rw[rX _ _ _ D,Rh,qT,ym,sb];have aj:=Ho (ak.getD (j+i2) 0+fI.getD i2 0+cm) 1000000000;generalize (ak.getD (j+i2) 0+fI.getD i2 0+cm) / 1000000000=aC at*;generalize (ak.getD (j+i2) 0+fI.getD i2 0+cm) % 1000000000=ba at*;have aH:ba=ak.getD (j+i2) 0+fI.getD i2 0+cm - 1000000000*aC:=D;rw[aH]
   grind
   rw[M5 D];exact KF;rw[Bv D];exact JY z6 D;by_cases amQ:p=j+i2;rw[amQ,adl D];omega;rw[qz _ _ _ _ D];exact CH p al;have amn:i2=i:=D;subst amn;have Zf:ak.getD (j+i2) 0=b3.getD (j+i2) 0 - c:=by rw[xe z6 (cg _)];exact Rb
   rw[PU]at Rh;obtain ⟨t10,tf,PL⟩:=CE.Hc (j:=j+i2) D (b3.getD (j+i2) 0 - c+cm);simp (disch:=omega) only[cW,st,bg,tB,bT,Fp,aao,Zf,tf];refine ZT _ _ ⟨_,g - 1,rfl,PL,by rw[oC];exact KE,?_,?_,λp al=>?_,?_,?_,?_⟩;rw[M5 D];exact KF;rw[Bv D,JY z6 D];exact Qu;rw[qz _ _ _ _ D];exact CH p al;rw[rX _ _ _ D,Zf,Rh,y3,ym]
   grind
   rw[Int.sub_mul,Int.one_mul];omega;rw[show g - 1+1=g by omega];omega;have yW:=Q5.1 D;simp (disch:=omega) only[cW,st];exact ZT _ _ ⟨BR,g,rfl,z2,mj,QG,Qu,z9,y3,D,ami⟩) D
theorem aqQ{s t:S}{bb bU t1 t2:Nat}{art SU:Bool}{EK JT bk cn:List V}(J:dN s t bb EK t1 art)(U:dN s t bU JT t2 SU)(ey:bb≠bU)(Z:Loc s t)(aR:s.ag=s.n)(hB:EK.length=2)(j0:JT.length=2)(ig:bk.length=2)(mj:cn.length=2)(b1:bk.all atom=true)(cq:cn.all atom=true):
  (bZ (c6 t (ef 2 (.ptr bb 0) (.agg bk) (aN t))) λ_ u=>bZ (c6 u (ef 2 (.ptr bU 0) (.agg cn) (aN u))) λ_ kS=>bB s kS [bf 2 kS (.ptr bb 0),bf 2 kS (.ptr bU 0)])=some (.da [.agg bk,.agg cn],s):=by
 have c0:∀ {l:List V},l.all atom=true->l.all bL=true:=λh=>by
  rw[fj]at h ⊢;exact λx hx=>Jy (h x hx)
 obtain ⟨u,aC,cy,dR,e6,_⟩:=J.put Z ig hB (c0 b1);obtain ⟨kS,ba,cm,dF,fo,_⟩:=(U.a1 e6 (by simp;exact λe=>ey e.symm)).put dR mj j0 (c0 cq);have s4:=cy.a1 fo (by simp;exact ey);rw[aC,js,ba,js,kN s4.rd D,kN cm.rd D,h5,h5,l2 D,l2 D];exact xh (OC b1 cq) D dF.eK
def Hx(X bJ:Nat)(r:V):Prop:= ∃a b n l,r=.da [a,b]∧lH n l a∧bN ((X % bJ:Nat):Int) b
theorem aij{v w:V}{X bJ:Nat}(ad:bV .i64 v (aL X))(hw:bV .i64 w (aL bJ))(n4:0<bJ)(Z:(aL X).length<=1000000)(dK:(aL bJ).length<=1000000):h6 a9 195 [v,w] (Hx X bJ):=λs ae=>
 (Np (cv aS)).kQ 0 (by
  show eE s _ (BD a9 0 v w s);unfold BD;simp only[cw];obtain ⟨s1,aC,bb,bk,aB,ed⟩:=eL [.bool false,.af] 43 (Loc.refl ae);obtain ⟨s2,ba,bU,cn,aT,gu⟩:=eL [.bool false,.af] 43 bk;have fk:=bb.a1 aT (by simp);have yQ:=bb.hi;have ai:=hh (aP:=false) (st:=false) (EG ad (gK X)) (fJ ad.a2) cn.ag;have eP:=hh (aP:=false) (st:=false) (EG hw (gK bJ)) (fJ hw.a2) cn.ag;rw[gq]at ai eP;have fin:∀(a b:V) (n:Bool) (l:List Int),lH n l a->bN ((X % bJ:Nat):Int) b->
    eE s (Hx X bJ) (bZ (c6 s2 (ef 2 (.ptr s.n 0) a (aN s2))) λ_ u=>bZ (c6 u (ef 2 (.ptr s1.n 0) b (aN u))) λ_ kS=>bB s kS [bf 2 kS (.ptr s.n 0),bf 2 kS (.ptr s1.n 0)]):=by
   intro a b n l av Y;have jZ:=av;have ft:=Y;obtain ⟨d,rfl,rr⟩:=av;obtain ⟨e,rfl,rv⟩:=Y;exact ⟨_,⟨_,_,n,l,rfl,jZ,ft⟩,aqQ fk bU D cn ae rfl rfl rfl rfl (lH.atoms rr).2 (j9 rv).1⟩
  have KB:=x5 X n4;by_cases U:(aL X).length<=2∧(aL bJ).length<=2
  ·rw[if_pos U.1]at ai;rw[if_pos U.2]at eP;have g8:=wG U.1;have aly:=wG U.2;have a7:=sR X bJ;obtain ⟨a,av,f1⟩:=ln (EH false (X / bJ) D) (df rfl rfl) cn.ag;obtain ⟨b,Y,f2⟩:=ln (EH false (X % bJ) D) (df rfl rfl) cn.ag;obtain ⟨d,rfl,rr⟩:=av;obtain ⟨e,rfl,rv⟩:=Y;obtain ⟨t1,f3,cy,dR,e6,_⟩:=fk.qJ (r:=some (cp.cc (.ptr s.n 0))) (w:=some (cp.cc (.ptr s.n 0))) (z:=2) cn rfl rfl (j9 rr).2;obtain ⟨t2,f4,cm,dF,fo,_⟩:=(bU.a1 e6 (by simp;omega)).qJ (r:=some (cp.cc (.ptr s1.n 0))) (w:=some (cp.cc (.ptr s1.n 0))) (z:=2) dR rfl rfl (j9 rv).2;have s4:=cy.a1 fo (by simp;omega);rw[Int.natCast_ediv]at f1 f3;rw[zy]at f2 f4;have xz:0<=(X:Int) / bJ:=Int.ediv_nonneg D D;have uU:(X:Int) / bJ<=X:=Int.ediv_le_self _ D;have tt:=zw (X:Int) (show (bJ:Int)≠0 by omega);have nO:=zv (X:Int) (show 0<(bJ:Int) by omega);simp (disch:=omega) only[cW,st,aC,ba,ai,eP,e2,bg,bT,vC,Bg,f1,f2,f3,f4];refine lb (zV [] 12 rfl ?_) ?_;refine .eY (.eY (.eY (.eY (.eY (.eY (.eY (.eY (.eY (.eY (.oO (.inr ⟨_,rfl,λ_ _ h=>by cases h⟩) aS (.oO (.inr ⟨_,rfl,λ_ _ h=>by cases h⟩) aS trivial)))))))))));rw[s4.bM.2.2,cm.bM.2.2];exact ⟨_,⟨_,_,_,_,rfl,⟨d,rfl,rr⟩,⟨e,rfl,rv⟩⟩,xh (OC (j9 rr).1 (j9 rv).1) D dF.eK⟩
  ·
   have cd:=hh (aP:=false) (st:=false) (EI ad hw D) (df ad.a2 hw.a2) cn.ag;have v3:(e8 (X:Int) (bJ:Int)<0↔X<bJ):=by unfold e8;(repeat' split)<;>constructor<;>omega
   have rest:∀K:ax,(eE s (Hx X bJ) K->eE s (Hx X bJ) K):=λ_ h=>h;by_cases b6:X<bJ;obtain ⟨a,⟨_,CK⟩,f1⟩:=hI (aP:=false) (st:=true) (zN false ad D) (df rfl ad.a2) cn.ag;have aa:=CK (gK X);rw[gq,show eA false (X:Int)=X from rfl,<-Nat.mod_eq_of_lt b6]at aa;have vY:=v3.2 b6;by_cases aj:(aL X).length<=2;rw[if_pos aj]at ai;rw[if_neg (λh=>U ⟨aj,h⟩)]at eP;simp (disch:=omega) only[cW,st,bg,aC,ba,ai,eP,cd,uB,f1];exact fin _ _ false [] lH.zero aa;rw[if_neg aj]at ai;simp (disch:=omega) only[cW,st,bg,aC,ba,ai,cd,uB,f1];exact fin _ _ false [] lH.zero aa;have vY: ¬e8 (X:Int) (bJ:Int)<0:=λh=>b6 (v3.1 h);by_cases uS:(aL bJ).length=1;have Fs:=jt (gK bJ) 0;have Ze:(aL bJ).getD 0 0=bJ:=by
    have:=gq bJ
    match a5:aL bJ,uS with
    |[y],_=>rw[a5]at this;simp[a0]at this;simp[this]
   rw[Ze]at Fs;obtain ⟨r,⟨q,l,rfl,a7,Aq,aal,Ar⟩,f1⟩:=hI (aP:=false) (st:=false) (Xo ad (gK X) (show 0<(bJ:Int) by omega) D D) (df ad.a2 rfl) cn.ag;rw[gq,<-zy]at f1;obtain ⟨a,⟨⟨jl,l',av⟩,_⟩,f2⟩:=hI (aP:=false) (st:=true) (zN false a7 D) (df rfl a7.a2) cn.ag;obtain ⟨b,Y,f3⟩:=hI (aP:=false) (st:=true) (EH false (X % bJ) D) (df rfl rfl) cn.ag;have ft:bN ((X % bJ:Nat):Int) b:=Y;have kv:∀t:S,cZ t (.fu (List.drop 0 (List.map (V.int .i64) (aL bJ))))=some (.int .i64 (bJ:Int)):=λt=>by
    rw[hb .i64 (aL bJ) t D,Ze]
   have amO:((aL bJ).length:Int)=1:=D;by_cases aj:(aL X).length<=2;exact absurd ⟨aj,D⟩ U;rw[if_neg aj]at ai;simp (disch:=omega) only[cW,st,bg,aC,ba,ai,cd,hw.len,amO,hw.c1,kv,f1,f2,vC,Bg,f3];exact fin _ _ jl l' av ft;have alz:2<=(aL bJ).length:=by
    have aR:(aL bJ).length≠0:=λh=>by have:=xN (vq.1 h);omega
    omega
   have hle:(aL bJ).length<=(aL X).length:=oi D;obtain ⟨r,⟨q,l,r',sA,rfl,a7,Ar,oX,yS,anr,auL⟩,f1⟩:=hI (aP:=false) (st:=false) (aim ad hw alz hle Z) (df ad.a2 hw.a2) cn.ag;obtain ⟨a,⟨⟨jl,l',av⟩,_⟩,f2⟩:=hI (aP:=false) (st:=true) (zN false a7 D) (df rfl a7.a2) cn.ag;obtain ⟨b,⟨_,n7⟩,f3⟩:=hI (aP:=false) (st:=true) (zN false oX D) (df rfl oX.a2) cn.ag;have Y:=n7 yS;rw[anr,show eA false ((X % bJ:Nat):Int)=((X % bJ:Nat):Int) from rfl]at Y;by_cases aj:(aL X).length<=2;exact absurd ⟨aj,D⟩ U;rw[if_neg aj]at ai;simp (disch:=omega) only[cW,st,bg,aC,ba,ai,cd,hw.len,f1,f2,f3];exact fin _ _ jl l' av Y) D
end Go.ah.X
