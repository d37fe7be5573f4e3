/-
  A part: lemmas; conditions: those that each names.
-/
import Derived.Test.YtalmddmghdinkaaGreatDoorV
set_option linter.all false
set_option linter.deprecated false
noncomputable section
set_option maxRecDepth 20000
set_option maxHeartbeats 8000000
namespace Go.ah.X
open Go Go.ah Go.Proofs.dI
section
attribute [local irreducible] bZ dp aF gZ cJ et c6 e9 eT aW aw cT bB e5 fD ef gv fl eV fe aV
def nC(P:V->V->Prop)(v:V):Prop:= ∃a b,v=.agg [a,b]∧P a b
def Wt(P:V->V->V->V->V->V->V->V->Prop)(v:V):Prop:= ∃a b c d e f g i,v=.agg [a,b,c,d,e,f,g,i]∧P a b c d e f g i
section
variable {ao s:S}{L cu:List b2}{Q:ax->Prop}
theorem ka{K:V->S->ax}{aP st:Bool}{f:Nat}{args:List V}{P:V->V->Prop}(h:aX ao s L)(aa:cI f args (nC P))(H:∀a b,P a b->aV Q (K (.agg [a,b]) s)):aV Q (bZ (cJ a9 aP st (.fn f [] []) args s) K):=
 g7 h aa λv ⟨a,b,e,al⟩=>e ▸ H a b al
theorem iH{K:V->S->ct->ax}{f:Nat}{args:List V}{P:V->V->Prop}(h:aX ao s L)(aa:cI f args (nC P))(H:∀a b,P a b->aV Q (K (.agg [a,b]) s (eM none s.n s.n []))):aV Q (dp (et a9 (.fn f [] []) args s) K):=
 lq h aa λv ⟨a,b,e,al⟩=>e ▸ H a b al
theorem aku{K:V->S->ct->ax}{f:Nat}{args:List V}{P:V->V->V->V->V->V->V->V->Prop}(h:aX ao s L)(aa:cI f args (Wt P))(H:∀a b c d e f g i,P a b c d e f g i->aV Q (K (.agg [a,b,c,d,e,f,g,i]) s (eM none s.n s.n []))):aV Q (dp (et a9 (.fn f [] []) args s) K):=
 lq h aa λv ⟨a,b,c,d,e,f,g,i,aZ,al⟩=>aZ ▸ H a b c d e f g i al
def wW(P eR:V->V->V->V->Prop):V->Prop:=Wt λa b c d e f g i=>P a b c d∧eR e f g i
theorem ta{K:V->S->ct->ax}{f:Nat}{args:List V}{P eR:V->V->V->V->Prop}(h:aX ao s L)(aa:cI f args (wW P eR))(H:∀a b c d e f g i,P a b c d->eR e f g i->aV Q (K (.agg [a,b,c,d,e,f,g,i]) s (eM none s.n s.n []))):aV Q (dp (et a9 (.fn f [] []) args s) K):=
 aku h aa λa b c d e f g i al=>H a b c d e f g i al.1 al.2
end
theorem Me{p:Int}(h:p.natAbs<1000000000):ez p:=by unfold ez;omega
theorem q2{p q:Int}(al:p.natAbs<1000000000:=by omega)(a7:q.natAbs<1000000000:=by omega)(aR:q≠0:=by omega):cI 28 [.int .i64 p,.int .i64 q] (jh (cH 1 ((p:Rat) / (q:Rat)))):=
 ae5 (Me al) (Me a7) aR
theorem yb{p:Int}(al:p.natAbs<1000000000:=by omega):cI 28 [.int .i64 p,.int .i64 1] (jh (cH 1 (p:Rat))):=by
 have:=q2 (p:=p) (q:=1) al
 rwa [show ((1:Int):Rat)=1 from rfl,show (p:Rat) / 1=p by grind]at this
section
variable {n m k l:Nat}{x y z w:Rat}{a b c d a8 a4 bj bK e f g i aZ gj g0 dt:V}
theorem cH.num(h:cH n x a b c d):bN x.num (.agg [a,b]):=by
 obtain ⟨⟨d1,aC,he,ai,_⟩,_⟩:=h;cases he;exact ⟨_,rfl,ai⟩
theorem bN.A{x:Int}(h:bN x (.agg [a,b])):X.a2 (.agg [a,b])=true:=h.a2
theorem Uh(h:cH n x a b c d):cI 69 [.agg [a,b,c,d]] (nC λe f=>bN (x.den:Int) (.agg [e,f])):=
 oq (xa h.1 x.den_pos) (fJ h.A) λ_ ad=>let ⟨d,e,h⟩:=ad;⟨_,_,e,d,e ▸ rfl,h⟩
theorem Hv{p q:Int}(h:bN p (.agg [a,b]))(h':bN q (.agg [c,d]))(a5:(aL p.natAbs).length<=100000000)(hm:(aL q.natAbs).length<=100000000):cI 68 [.agg [a,b],.agg [c,d]] (nC λe f=>bN (p*q) (.agg [e,f])):=
 oq (w9 h h' a5 hm) (df h.A h'.A) λ_ ad=>let ⟨d,e,h⟩:=ad;⟨_,_,e,d,e ▸ rfl,h⟩
def BP(n:Nat)(a b c d:V):Prop:= ∃x,cH n x a b c d
theorem afl{p q:Int}(h:bN p (.agg [a,b]))(h':bN q (.agg [c,d]))(a5:(aL p.natAbs).length<=k)(hm:(aL q.natAbs).length<=k)(hk:1<=k)(fS:k<=1000000):cI 66 [.agg [a,b],.agg [c,d]] (jh (BP k)):=by
 refine oq (aix h h' D D) (df h.A h'.A) λv ad=>?_;obtain ⟨dA,q',jX,m5,J,U⟩:=ad;obtain ⟨d,e,rfl,ai,he⟩:=m5;have aH:=oi J;have bD:=oi U;have aj:=Gv hm hk;exact ⟨_,_,_,_,rfl,AW dA q' jX,⟨d,e,rfl,ai,he⟩,gb aH D,gb bD aj⟩
theorem ua{p:Int}(al:p.natAbs<1000000000:=by omega):cI 34 [.int .i64 p] (jh (cH 1 p)):=⟨λs ae au=>
 (agl (cv aS)).ee 0 (by
  show aV _ (NX a9 0 (.int .i64 p) s);unfold NX;simp only[cw];have h:=aX.nil ae au;have r:=h.bX;repeat' first
   |simp (disch:=first|omega|exact fW.of ib|exact mZ.of (by simp only[mR];decide)|assumption) only[fU,st,e2,bg,r]
   |refine cf h λ_ _ h r=>?_
   |refine lp h (yb al) λ_ _ _ _ _=>?_
   |refine c9 h (.here _ _ _) (λ_ h r=>?_) (hx:=w5 c3 rfl)
   |exact dh h ae (mJ c3 rfl) ⟨_,_,_,_,rfl,by assumption⟩) D,fJ rfl⟩
theorem D6{p:Int}(al:p.natAbs<1000000000:=by omega):cI 131 [.int .i64 p] (jh (cH 1 p)):=⟨λs ae au=>
 (afU (cv aS)).ee 0 (by
  show aV _ (NC a9 0 (.int .i64 p) s);unfold NC;simp only[cw];have h:=aX.nil ae au;have r:=h.bX;repeat' first
   |simp (disch:=first|omega|exact fW.of ib|exact mZ.of (by simp only[mR];decide)|assumption) only[fU,st,e2,bg,r]
   |refine cf h λ_ _ h r=>?_
   |refine lp h (yb al) λ_ _ _ _ _=>?_
   |refine c9 h (.here _ _ _) (λ_ h r=>?_) (hx:=w5 c3 rfl)
   |exact dh h ae (mJ c3 rfl) ⟨_,_,_,_,rfl,by assumption⟩) D,fJ rfl⟩
theorem By(hx:cH n x a b c d)(aY:cH n z e f g i)(aI:cH m y a8 a4 bj bK)(hw:cH m w aZ gj g0 dt)(a5:n+m<=90000:=by omega):
  cI 121 [.agg [a,b,c,d,e,f,g,i],.agg [a8,a4,bj,bK,aZ,gj,g0,dt]] (wW (cH (n+m+1) (x+y)) (cH (n+m+1) (z+w))):=⟨λs ae au=>
 (afL (cv aS)).ee 0 (by
  show aV _ (Nt a9 0 (.agg [a,b,c,d,e,f,g,i]) (.agg [a8,a4,bj,bK,aZ,gj,g0,dt]) s);unfold Nt;simp only[cw];have h:=aX.nil ae au;have r:=h.bX;repeat' first
   |simp (disch:=first|omega|exact fW.of ib|exact mZ.of (by simp only[mR];decide)|assumption) only[fU,st,e2,bg,r]
   |refine cf h λ_ _ h r=>?_
   |refine eN h (tZ c3 c3) λ_ _ _ _ _=>?_
   |refine fN h (.here _ _ _) (λ_ _ h r=>?_) (hx:=w5 c3 (w5 c3 rfl))
   |exact dh h ae (mJ c3 (mJ c3 rfl)) ⟨_,_,_,_,_,_,_,_,rfl,by assumption,by assumption⟩) D,df (mJ hx (mJ aY rfl)) (mJ aI (mJ hw rfl))⟩
theorem TQ(hk:cH n x a b c d)(aI:cH m y a8 a4 bj bK)(hw:cH m w aZ gj g0 dt)(a5:n+m<=90000:=by omega):
  cI 122 [.agg [a,b,c,d],.agg [a8,a4,bj,bK,aZ,gj,g0,dt]] (wW (cH (n+m+1) (x*y)) (cH (n+m+1) (x*w))):=⟨λs ae au=>
 (afM (cv aS)).ee 0 (by
  show aV _ (Nu a9 0 (.agg [a,b,c,d]) (.agg [a8,a4,bj,bK,aZ,gj,g0,dt]) s);unfold Nu;simp only[cw];have h:=aX.nil ae au;have r:=h.bX;repeat' first
   |simp (disch:=first|omega|exact fW.of ib|exact mZ.of (by simp only[mR];decide)|assumption) only[fU,st,e2,bg,r]
   |refine cf h λ_ _ h r=>?_
   |refine eN h (yc c3 c3) λ_ _ _ _ _=>?_
   |refine fN h (.here _ _ _) (λ_ _ h r=>?_) (hx:=w5 c3 (w5 c3 rfl))
   |exact dh h ae (mJ c3 (mJ c3 rfl)) ⟨_,_,_,_,_,_,_,_,rfl,by assumption,by assumption⟩) D,df hk.A (mJ aI (mJ hw rfl))⟩
theorem Uk(hx:cH n x a b c d)(aY:cH n z e f g i)(aI:cH m y a8 a4 bj bK)(hw:cH m w aZ gj g0 dt)(a5:n+m<=80000:=by omega):
  cI 74 [.agg [a,b,c,d,e,f,g,i],.agg [a8,a4,bj,bK,aZ,gj,g0,dt]] (wW (BP (n+m+3)) (BP (n+m+3))):=⟨λs ae au=>
 (agD (cv aS)).ee 0 (by
  show aV _ (Ob a9 0 (.agg [a,b,c,d,e,f,g,i]) (.agg [a8,a4,bj,bK,aZ,gj,g0,dt]) s);unfold Ob;simp only[cw];have h:=aX.nil ae au;have r:=h.bX;repeat' first
   |simp (disch:=first|omega|exact fW.of ib|exact mZ.of (by simp only[mR];decide)|assumption) only[fU,st,e2,bg,r]
   |refine cf h λ_ _ h r=>?_
   |refine eN h yb λ_ _ _ _ _=>?_
   |refine ta h (TQ c3 aI hw) λ_ _ _ _ _ _ _ _ _ _=>?_
   |refine ta h (By hx aY c3 c3) λ_ _ _ _ _ _ _ _ p q=>?_
   |refine fN h (.here _ _ _) (λ_ _ h r=>?_) (hx:=w5 p (w5 q rfl))
   |exact dh h ae (mJ p (mJ q rfl)) ⟨_,_,_,_,_,_,_,_,rfl,⟨_,p.mono D⟩,⟨_,q.mono D⟩⟩) D,df (mJ hx (mJ aY rfl)) (mJ aI (mJ hw rfl))⟩
end
end
section
attribute [local irreducible] bZ dp aF gZ cJ et c6 e9 eT aW aw cT bB e5 fD ef gv fl eV fe aV
section
variable {n m k l:Nat}{x y z w:Rat}{a b c d a8 a4 bj bK e f g i aZ gj g0 dt:V}
theorem aeC{p:Int}(h:bN p (.agg [a,b]))(Z:(aL p.natAbs).length<=1000000000):cI 120 [.agg [a,b]] (m3 (·=e8 p 0)):=pC (aib h Z) (fJ h.A) ⟨_,rfl,rfl⟩
theorem aeA{p:Int}(h:bN p (.agg [a,b]))(Z:(aL p.natAbs).length<=1000000000):cI 114 [.agg [a,b]] (nC λe f=>bN (-p) (.agg [e,f])):=
 oq (OL h Z) (fJ h.A) λ_ ad=>let ⟨d,e,h⟩:=ad;⟨_,_,e,d,e ▸ rfl,h⟩
theorem adn(x:Rat):e8 x.num 0=gN x 0:=by
 have:=SR x 0;rw[show (0:Rat).num=0 from rfl,show (0:Rat).den=1 from rfl]at this;simpa using this
theorem Ng(J:cH n x a b c d)(a5:n<=1000000:=by omega):cI 72 [.agg [a,b,c,d]] (m3 (·=gN x 0)):=⟨λs ae au=>
 (agB (cv aS)).ee 0 (by
  show aV _ (N9 a9 0 (.agg [a,b,c,d]) s);unfold N9;simp only[cw];have h:=aX.nil ae au;have r:=h.bX;repeat' first
   |refine kt ?_
   |refine cf h λ_ _ h r=>?_
   |refine gr h (aeC J.num (gb J.2.1 D)) λ_ e=>?_
   |exact dh h ae rfl ⟨_,rfl,e.trans (adn x)⟩) D,fJ J.A⟩
theorem cH.neg(h:cH n x a b c d)(h':bN (-x.num) (.agg [e,f])):cH n (-x) e f c d:=by
 obtain ⟨⟨d1,aC,he,ai,eP⟩,J,U⟩:=h;cases he;obtain ⟨d2,he,aj⟩:=h';cases he;refine ⟨⟨f,d,by rw[Rat.neg_num],by rw[Rat.neg_num];exact aj,by rw[Rat.neg_den];exact eP⟩,?_,?_⟩;rw[Rat.neg_num,D1];exact J;rw[Rat.neg_den];exact U
theorem aeT(J:cH n x a b c d)(a5:n<=1000000:=by omega):cI 172 [.agg [a,b,c,d]] (jh (cH n (-x))):=⟨λs ae au=>
 (af5 (cv aS)).ee 0 (by
  show aV _ (NN a9 0 (.agg [a,b,c,d]) s);unfold NN;simp only[cw];have h:=aX.nil ae au;have r:=h.bX;repeat' first
   |refine kt ?_
   |refine cf h λ_ _ h r=>?_
   |refine iH h (aeA J.num (gb J.2.1 D)) λ_ _ p=>?_
   |refine fN h (.here _ _ _) (λ_ _ h r=>?_) (hx:=(J.neg p).bL)
   |exact dh h ae (J.neg p).atoms ⟨_,_,_,_,rfl,J.neg p⟩) D,fJ J.A⟩
theorem aeN(J:cH n x a b c d)(U:cH m y a8 a4 bj bK)(a5:n+m<=90000:=by omega):cI 164 [.agg [a,b,c,d],.agg [a8,a4,bj,bK]] (jh (cH (n+m+1) (x+ -y))):=⟨λs ae au=>
 (afX (cv aS)).ee 0 (by
  show aV _ (NF a9 0 (.agg [a,b,c,d]) (.agg [a8,a4,bj,bK]) s);unfold NF;simp only[cw];have h:=aX.nil ae au;have r:=h.bX;repeat' first
   |refine kt ?_
   |refine cf h λ_ _ h r=>?_
   |refine eN h (aeT U) λ_ _ _ _ p=>?_
   |refine eN h (tZ J p) λ_ _ _ _ q=>?_
   |refine fN h (.here _ _ _) (λ_ _ h r=>?_) (hx:=q.bL)
   |exact dh h ae q.atoms ⟨_,_,_,_,rfl,q⟩) D,df J.A U.A⟩
theorem Ul(J:cH n x a b c d)(U:cH m y a8 a4 bj bK)(a5:n+m<=90000:=by omega):cI 80 [.agg [a,b,c,d],.agg [a8,a4,bj,bK]] (jh (BP (n+m+1))):=⟨λs ae au=>
 (agJ (cv aS)).ee 0 (by
  show aV _ (Oh a9 0 (.agg [a,b,c,d]) (.agg [a8,a4,bj,bK]) s);unfold Oh;simp only[cw];have h:=aX.nil ae au;have r:=h.bX;obtain ⟨bk,cn⟩:=J.2;obtain ⟨dM,eU⟩:=U.2;have dR:=qd x.num.natAbs y.den;have dF:=qd x.den y.num.natAbs;repeat' first
   |refine kt ?_
   |refine cf h λ_ _ h r=>?_
   |refine iH h (Uh U) λ_ _ p=>?_
   |refine iH h (Hv J.num p D (by rw[fb];omega)) λ_ _ u=>?_
   |refine iH h (Uh J) λ_ _ q=>?_
   |refine iH h (Hv q U.num (by rw[fb];omega) D) λ_ _ v=>?_
   |refine eN h (afl (k:=n+m+1) u v (by rw[mC,fb];omega) (by rw[mC,fb];omega) D D) λ_ _ _ _ ⟨z,o⟩=>?_
   |refine fN h (.here _ _ _) (λ_ _ h r=>?_) (hx:=o.bL)
   |exact dh h ae o.atoms ⟨_,_,_,_,rfl,z,o⟩) D,df J.A U.A⟩
theorem Um{X bJ H:Int}(g8:X.natAbs<1000000000)(n4:bJ.natAbs<1000000000)(J:cH n x a b c d)(U:cH n y a8 a4 bj bK)(a5:n<=30000:=by omega):
  cI 81 [.agg [.int .i64 X,.int .i64 bJ,.int .i64 H],.agg [a,b,c,d,a8,a4,bj,bK]] (jh (BP (2*n+5))):=⟨λs ae au=>
 (agK (cv aS)).ee 0 (by
  show aV _ (Oi a9 0 (.agg [.int .i64 X,.int .i64 bJ,.int .i64 H]) (.agg [a,b,c,d,a8,a4,bj,bK]) s);unfold Oi;simp only[cw];have h:=aX.nil ae au;have r:=h.bX;repeat' first
   |refine kt ?_
   |refine cf h λ_ _ h r=>?_
   |refine eN h (yb g8) λ_ _ _ _ p=>?_
   |refine eN h (yb n4) λ_ _ _ _ q=>?_
   |refine eN h (yc p J) λ_ _ _ _ u=>?_
   |refine eN h (yc q U) λ_ _ _ _ v=>?_
   |refine eN h (tZ u v) λ_ _ _ _ o=>?_
   |refine fN h (.here _ _ _) (λ_ _ h r=>?_) (hx:=o.bL)
   |exact dh h ae o.atoms ⟨_,_,_,_,rfl,_,o.mono D⟩) D,df rfl (mJ J (mJ U rfl))⟩
theorem aeD{X bJ H A:Int}(g8:X.natAbs<1000000000)(n4:bJ.natAbs<1000000000)(ak6:H.natAbs<1000000000)(gW:A.natAbs<1000000000)(J:cH n x a b c d)(U:cH n y a8 a4 bj bK)(a5:n<=10000:=by omega):
  cI 123 [.agg [.int .i64 X,.int .i64 bJ,.int .i64 H,.int .i64 A],.agg [a,b,c,d,a8,a4,bj,bK]] (jh (BP (2*n+20))):=⟨λs ae au=>
 (afN (cv aS)).ee 0 (by
  show aV _ (Nv a9 0 (.agg [.int .i64 X,.int .i64 bJ,.int .i64 H,.int .i64 A]) (.agg [a,b,c,d,a8,a4,bj,bK]) s);unfold Nv;simp only[cw];have h:=aX.nil ae au;have r:=h.bX;repeat' first
   |refine kt ?_
   |refine cf h λ_ _ h r=>?_
   |refine eN h (Um g8 n4 J U) λ_ _ _ _ ⟨_,p⟩=>?_
   |refine eN h (yb gW) λ_ _ _ _ q=>?_
   |refine eN h (yb ak6) λ_ _ _ _ v=>?_
   |refine eN h (aeN p q) λ_ _ _ _ u=>?_
   |refine eN h (Ul u v) λ_ _ _ _ ⟨_,o⟩=>?_
   |refine fN h (.here _ _ _) (λ_ _ h r=>?_) (hx:=o.bL)
   |exact dh h ae o.atoms ⟨_,_,_,_,rfl,_,o.mono D⟩) D,df rfl (mJ J (mJ U rfl))⟩
theorem aeQ(J:cH n x a b c d)(U:cH m y a8 a4 bj bK)(aj:cH m z e f g i)(aH:cH m w aZ gj g0 dt)(a5:n+m<=10000:=by omega):
  cI 169 [.agg [a,b,c,d],.agg [a8,a4,bj,bK],.agg [e,f,g,i],.agg [aZ,gj,g0,dt]] (jh (cH (n+10*m+20) (x+(y*w+z*(w*w*(((1:Int):Rat) / ((2:Int):Rat))))))):=⟨λs ae au=>
 (af2 (cv aS)).ee 0 (by
  show aV _ (NK a9 0 (.agg [a,b,c,d]) (.agg [a8,a4,bj,bK]) (.agg [e,f,g,i]) (.agg [aZ,gj,g0,dt]) s);unfold NK;simp only[cw];have h:=aX.nil ae au;have r:=h.bX;repeat' first
   |refine kt ?_
   |refine cf h λ_ _ h r=>?_
   |refine lp h (yc aH aH) λ_ _ _ _ p=>?_
   |refine lp h q2 λ_ _ _ _ q=>?_
   |refine lp h (yc p q) λ_ _ _ _ u=>?_
   |refine c9 h (.here _ _ _) (λ_ h r=>?_) (hx:=u.bL)
   |refine eN h (yc U aH) λ_ _ _ _ v=>?_
   |refine eN h (yc aj u) λ_ _ _ _ t=>?_
   |refine eN h (tZ v t) λ_ _ _ _ o=>?_
   |refine eN h (tZ J o) λ_ _ _ _ o'=>?_
   |refine fN h cj (λ_ _ h r=>?_) (hx:=o'.bL)
   |exact dh h ae o'.atoms ⟨_,_,_,_,rfl,o'.mono D⟩) D,by simp[J.A,U.A,aj.A,aH.A]⟩
theorem Mu(x y:Rat):gN x y<0↔x<y:=by
 unfold gN;split;simp[*];split<;>simp[*]
theorem Mt(x y:Rat):0<gN x y↔y<x:=by
 unfold gN;split;rename_i h;simp[zz.2 (Rat.le_of_lt h)];split<;>simp[*]
theorem arq(x y:Rat):gN x y=0↔x=y:=by
 unfold gN;split;rename_i h;simp;intro e;subst e;exact D2 h;rename_i J;split;rename_i h;simp;intro e;subst e;exact D2 h;rename_i U;simp;exact Rat.le_antisymm (zz.1 U) (zz.1 J)
def sB(x y:Rat):Rat:=if y<x then y else x
def sf(x y:Rat):Rat:=if x<y then y else x
theorem aeR(J:cH n x a b c d)(U:cH n y a8 a4 bj bK)(a5:n<=100000:=by omega):cI 170 [.agg [a,b,c,d],.agg [a8,a4,bj,bK]] (jh (cH n (sB x y))):=⟨λs ae au=>
 (af3 (cv aS)).ee 0 (by
  show aV _ (NL a9 0 (.agg [a,b,c,d]) (.agg [a8,a4,bj,bK]) s);unfold NL;simp only[cw];have h:=aX.nil ae au;have r:=h.bX;unfold sB;by_cases b6:y<x
  ·have hU:=(Mu y x).2 b6;rw[if_pos b6];repeat' first
    |refine kt ?_
    |refine cf h λ_ _ h r=>?_
    |refine gr h (ub U J) λ_ e=>?_;subst e
    |refine c9 h (.here _ _ _) (λ_ h r=>?_) (hx:=U.bL)
    |exact dh h ae U.atoms ⟨_,_,_,_,rfl,U⟩
  ·have hU:=λh=>b6 ((Mu y x).1 h);rw[if_neg b6];repeat' first
    |refine kt ?_
    |refine cf h λ_ _ h r=>?_
    |refine gr h (ub U J) λ_ e=>?_;subst e
    |refine c9 h (.here _ _ _) (λ_ h r=>?_) (hx:=J.bL)
    |exact dh h ae J.atoms ⟨_,_,_,_,rfl,J⟩) D,df J.A U.A⟩
theorem aeS(J:cH n x a b c d)(U:cH n y a8 a4 bj bK)(a5:n<=100000:=by omega):cI 171 [.agg [a,b,c,d],.agg [a8,a4,bj,bK]] (jh (cH n (sf x y))):=⟨λs ae au=>
 (af4 (cv aS)).ee 0 (by
  show aV _ (NM a9 0 (.agg [a,b,c,d]) (.agg [a8,a4,bj,bK]) s);unfold NM;simp only[cw];have h:=aX.nil ae au;have r:=h.bX;unfold sf;by_cases b6:x<y
  ·have hU:=(Mt y x).2 b6;rw[if_pos b6];repeat' first
    |refine kt ?_
    |refine cf h λ_ _ h r=>?_
    |refine gr h (ub U J) λ_ e=>?_;subst e
    |refine c9 h (.here _ _ _) (λ_ h r=>?_) (hx:=U.bL)
    |exact dh h ae U.atoms ⟨_,_,_,_,rfl,U⟩
  ·have hU:=λh=>b6 ((Mt y x).1 h);rw[if_neg b6];repeat' first
    |refine kt ?_
    |refine cf h λ_ _ h r=>?_
    |refine gr h (ub U J) λ_ e=>?_;subst e
    |refine c9 h (.here _ _ _) (λ_ h r=>?_) (hx:=J.bL)
    |exact dh h ae J.atoms ⟨_,_,_,_,rfl,J⟩) D,df J.A U.A⟩
end
end
section
section
variable {ao s:S}{L cu:List b2}{Q:ax->Prop}
theorem SY{o:Option (V×S)}{v:V}{s':S}{r:Reach}(h:c6 s o=some (v,s'))(a5:s'.n=s.n+1):e9 r (some []) s o=some (v,s',eM r s.n (s.n+1) []):=by
 obtain ⟨u,cF,dV⟩:=SX (r:=r) (w:=some []) h;have hu:s'.n=u.n:=by
  rw[cF]at h;simp only[c6,cU,c4,true_and]at h;rw[<-h]
 rw[dV,<-a5,hu];unfold eM;congr 4;cases Nat.blt u.ag s.n<;>rfl
theorem YI{K:V->S->ax}{T:Types}{t e:Nat}{te ti:cb}{n:Int}(h:aX ao s L)(aO:T.get t=some ti)(hk:ti.kind=.slice e)(dv:T.get e=some te)(aR:0<=n)(Y:te.bytes*n<=281474976710656)(a5:n<=4611686018427387904){z:Nat}(aY:te.size=z)(Ay:(zero te).length=z)
  (H:∀v s',s'.n=s.n+1->aX ao s' (.ca v e z n.toNat (cC n.toNat (zero te))::L)->jF s' L->aV Q (K v s')):aV Q (bZ (c6 s (eV T t (.int .i64 n) (.int .i64 n) (aN s))) K):=by
 have PI:=h.loc.n;have J:=h.loc.eK;have U:=h.loc.ag;obtain ⟨kf,o5,nF,TK⟩:=ti;simp only[]at hk;subst hk;unfold eV;simp only[aO,dv];rw[if_pos ⟨aR,vn _,Y,a5⟩,aY];have Z:(cC n.toNat (zero te)).length=n.toNat*z:=by
  have:∀m:Nat,(cC m (zero te)).length=m*z:=λm=>by
   induction m with
   |zero=>simp[cC]
   |succ m a3=>rw[cC,hZ,a3,Ay,wN];omega
  exact this _
 have Y:dN ao (newObj (aN s) (.cells (cC n.toNat (zero te)) e false true)) s.n (cC n.toNat (zero te)) e false:=⟨PI,by simp[newObj,aN],by simp only[newObj,aN];exact aJ.jV _ _ _⟩;have h':aX ao { newObj (aN s) (.cells (cC n.toNat (zero te)) e false true) with ag:=min s.ag s.n } (.ca (.bx s.n 0 n.toNat n.toNat z) e z n.toNat (cC n.toNat (zero te))::L):=
  h.cons ⟨by simp only[newObj,aN];omega,by simp only[];omega,by simp only[newObj,aN];omega⟩ ⟨by simp only[newObj,aN];omega,λc aa _=>by simp only[newObj,aN];rw[aJ.hj _ _ D]⟩
   (.cc _ _ _ false ⟨Y.lo,Y.hi,Y.get⟩ Z) (λb Y=>by simp only[b2.hf,b4,iu]at Y;omega)
 show aV Q (bZ (some (_,_)) K);rw[js];exact H _ _ rfl h' h'.bX
theorem Ff{K:V->S->ax}{T:Types}{t e:Nat}{te ti:cb}{n:Int}(h:aX ao s L)(aO:T.get t=some ti)(hk:ti.kind=.slice e)(dv:T.get e=some te)(aR:0<=n)(Y:te.bytes*n<=281474976710656)(a5:n<=4611686018427387904){z:Nat}(aY:te.size=z)(Ay:(zero te).length=z)
  (H:∀v s',aX ao s' (.ca v e z n.toNat (cC n.toNat (zero te))::L)->jF s' L->aV Q (K v s')):aV Q (bZ (c6 s (eV T t (.int .i64 n) (.int .i64 n) (aN s))) K):=YI h aO hk dv aR Y a5 aY Ay λv s' _ h r=>H v s' h r
theorem akP{K:V->S->ct->ax}{T:Types}{t e:Nat}{te ti:cb}{n:Int}{r:Reach}(h:aX ao s L)(aO:T.get t=some ti)(hk:ti.kind=.slice e)(dv:T.get e=some te)(aR:0<=n)(Y:te.bytes*n<=281474976710656)(a5:n<=4611686018427387904){z:Nat}(aY:te.size=z)(Ay:(zero te).length=z)
  (H:∀v s' lo,aX ao s' (.ca v e z n.toNat (cC n.toNat (zero te))::L)->jF s' L->aV Q (K v s' (eM r lo (lo+1) []))):aV Q (dp (e9 r (some []) s (eV T t (.int .i64 n) (.int .i64 n) (aN s))) K):=by
 have key:=YI (Q:=λa=> ∃v s',a=some (v,s')∧s'.n=s.n+1∧aX ao s' (.ca v e z n.toNat (cC n.toNat (zero te))::L)) (K:=λv s=>some (v,s)) h aO hk dv aR Y a5 aY Ay λv s' a5 hm _=>⟨v,s',rfl,a5,hm⟩;obtain ⟨v,s',aC,uR,hm⟩:=key;have ba:c6 s (eV T t (.int .i64 n) (.int .i64 n) (aN s))=some (v,s'):=by
  cases aE:c6 s (eV T t (.int .i64 n) (.int .i64 n) (aN s)) with
  |none=>rw[aE]at aC;cases aC
  |some p=>rw[aE,B2]at aC;exact aC
 rw[SY (r:=r) ba uR,pX];exact H _ _ _ hm hm.bX
theorem oT{K:V->S->ax}{z len e:Nat}{ps:List (Nat×Nat×V)}{c l:List V}(h:aX ao s L)(aM:bW c ps=some (.agg l))(aa:l.length=len*z)
  (H:∀v s',aX ao s' (.ca v e z len l::L)->jF s' L->aV Q (K v s')):aV Q (bZ (c6 s (fl z len e c ps (aN s))) K):=by
 obtain ⟨v,s',aC,dm,bk,aB,bb⟩:=uq (e:=e) h.loc aM aa;rw[aC,js];have h':=h.cons (x:=.ca v e z len l) bk aB dm bb;exact H _ _ h' h'.bX
theorem akt{K:V->S->ct->ax}{z len e:Nat}{ps:List (Nat×Nat×V)}{c l:List V}{r:Reach}(h:aX ao s L)(aM:bW c ps=some (.agg l))(aa:l.length=len*z)
  (H:∀b s' lo,aX ao s' (.ca (.bx b 0 len len z) e z len l::L)->jF s' L->aV Q (K (.bx b 0 len len z) s' (eM r lo (lo+1) []))):aV Q (dp (e9 r (some []) s (fl z len e c ps (aN s))) K):=by
 obtain ⟨v,s',aC,dm,bk,aB,bb⟩:=uq (e:=e) h.loc aM aa;have uR:s'.n=s.n+1∧v=.bx s.n 0 len len z:=by
  have ba:=aC;unfold fl at ba;rw[aM]at ba;simp only[c6,newObj,aN,cU,c4]at ba;rw[<-ba.2,<-ba.1];exact ⟨rfl,rfl⟩
 obtain ⟨uR,rfl⟩:=uR;rw[SY (r:=r) aC uR,pX];have h':=h.cons (x:=.ca (.bx s.n 0 len len z) e z len l) bk aB dm bb;exact H _ _ _ h' h'.bX
theorem xi{K:V->S->ct->ax}{z len e:Nat}{ps:List (Nat×Nat×V)}{c l:List V}{r:Reach}(h:aX ao s L)(aM:bW c ps=some (.agg l))(aa:l.length=len*z)
  (H:∀v s' lo,aX ao s' (.ca v e z len l::L)->jF s' L->aV Q (K v s' (eM r lo (lo+1) []))):aV Q (dp (e9 r (some []) s (fl z len e c ps (aN s))) K):=by
 obtain ⟨v,s',aC,dm,bk,aB,bb⟩:=uq (e:=e) h.loc aM aa;have uR:s'.n=s.n+1:=by
  have ba:=aC;unfold fl at ba;rw[aM]at ba;simp only[c6,newObj,aN,cU,c4]at ba;rw[<-ba.2]
 rw[SY (r:=r) aC uR,pX];have h':=h.cons (x:=.ca v e z len l) bk aB dm bb;exact H _ _ _ h' h'.bX
theorem aX.app{x v:V}{e z l n:Nat}{cs d:List V}{s':S}(h:aX ao s L)(u:ji L (.ca x e z l cs) cu)(dm:cl ao s' e z v (l+n) (cs++d))(bk:Loc ao s')(aB:fX s s' (b4 x))(bb:∀b,b∈b4 v->b∈b4 x∨s.n<=b):aX ao s' (.ca v e z (l+n) (cs++d)::cu):=by
 have U:=h.GJ u bk aB;refine ⟨bk,λw hw=>?_,⟨λy aI b Y rq=>?_,U.ju⟩,U.old,U.n3⟩;rcases hc.1 hw with rfl|hw
 exact dm;exact U.ok w hw;rcases bb b Y with Y|Y
 exact u.ju h.ju y aI b rq Y;have:=((h.ok y (u.sub.subset aI)).lo rq).2;omega
theorem vN{K:V->S->ax}{e z l n:Nat}{te:cb}{x y:V}{cs d:List V}(h:aX ao s L)(u:ji L (.ca x e z l cs) cu)(aI:lk s z y n d)(ai:d.all bL=true)(ae:te.size=z)(Y:0<te.bytes)(hlen:(l+n)*te.bytes<=140737488355328)
  (H:∀v s',aX ao s' (.ca v e z (l+n) (cs++d)::cu)->jF s' cu->aV Q (K v s')):aV Q (bZ (c6 s (fD te e x y (aN s))) K):=by
 obtain ⟨v,s',aC,dm,bk,aB,bb⟩:=Jv (e:=e) h.loc (h.ok _ u.mem) aI.bad (by rintro t rfl;cases aI;rename_i h;cases h) (aI.items ae) ai aI.cells ae Y hlen;rw[aC,js];have h':=h.app u dm bk aB bb;exact H _ _ h' h'.bX
theorem PB{K:V->S->ax}{e z n:Nat}{te:cb}{y:V}{d:List V}(h:aX ao s L)(aI:lk s z y n d)(ai:d.all bL=true)(ae:te.size=z)(Y:0<te.bytes)(hlen:n*te.bytes<=140737488355328)
  (H:∀v s',aX ao s' (.ca v e z n d::L)->jF s' L->aV Q (K v s')):aV Q (bZ (c6 s (fD te e .af y (aN s))) K):=by
 obtain ⟨v,s',aC,dm,bk,aB,bb⟩:=Jv (e:=e) h.loc .nil aI.bad (by rintro t rfl;cases aI;rename_i h;cases h) (aI.items ae) ai aI.cells ae Y (by rw[gD];exact hlen);rw[aC,js];rw[gD,hp]at dm;have h':=h.cons (x:=.ca v e z n d) bk aB dm (λb Y=>(bb b Y).elim (λh=>by cases h) id);exact H _ _ h' h'.bX
theorem yB{e l:Nat}{v x:V}{cs:List V}{k:IntKind}{i:Int}(h:aX ao s L)(u:qu L (.ca v e 1 l cs) (.ca v e 1 l (cs.set i.toNat x)) cu)(aR:0<=i)(J:i<l)(hx:bL x=true):
  ∃p,dW 1 v (.int k i)=some p∧ ∀K:V->S->ax,(∀s',aX ao s' cu->jF s' cu->aV Q (K .bad s'))->aV Q (bZ (c6 s (ef 1 p x (aN s))) K):=by
 obtain ⟨p,s',aC,ba,dm,bk,aB⟩:=cl.put (k:=k) h.loc (h.ok _ u.mem) aR J hx;refine ⟨p,aC,λK H=>?_⟩;rw[ba,js];have h':=h.up u bk aB dm (λb Y=>.inl Y);exact H _ h' h'.bX
def wV(f:Nat)(args:List V)(e z:Nat)(P:Nat->List V->Prop):Prop:=(∀s:S,s.ag=s.n->l4 s-> ∃l cs,P l cs∧cs.length=l*z∧pT s e z l cs (a9 f args s))∧args.all ep=true
theorem YB{K:V->S->ax}{aP st:Bool}{f e z:Nat}{args:List V}{P:Nat->List V->Prop}(h:aX ao s L)(aa:wV f args e z P)(H:∀v l cs s',P l cs->aX ao s' (.ca v e z l cs::L)->jF s' L->aV Q (K v s'))(hk:dT f=false:=by rfl):aV Q (bZ (cJ a9 aP st (.fn f [] []) args s) K):=by
 obtain ⟨l,cs,al,Z,a5⟩:=aa.1 (aN s) rfl h.g;obtain ⟨v,s',aC,dm,bk,aB,bb,_⟩:=OU (hk:=hk) (aP:=aP) (st:=st) h.loc (gz.q8 _ aa.2) (λb Y=>by cases Y) (λ_ _=>rfl) a5 Z;rw[aC,js];have h':=h.cons (x:=.ca v e z l cs) bk aB dm bb;exact H _ _ _ _ al h' h'.bX
theorem Fe{K:V->S->ct->ax}{f e z:Nat}{args:List V}{P:Nat->List V->Prop}(h:aX ao s L)(aa:wV f args e z P)(H:∀v l cs s' lo hi,P l cs->aX ao s' (.ca v e z l cs::L)->jF s' L->aV Q (K v s' (eM none lo hi [])))(hk:dT f=false:=by rfl):aV Q (dp (et a9 (.fn f [] []) args s) K):=by
 obtain ⟨l,cs,al,Z,a5⟩:=aa.1 (aN s) rfl h.g;obtain ⟨v,s',hi,aC,dm,bk,aB,bb,_⟩:=XB (hk:=hk) h.loc (gz.q8 _ aa.2) (λb Y=>by cases Y) (λ_=>a5) Z;rw[aC,pX];have h':=h.cons (x:=.ca v e z l cs) bk aB dm bb;exact H _ _ _ _ _ _ al h' h'.bX
theorem gz.h{s bc:S}{l l':List V}{bs:List Nat}(av:gz (aN s) l l' bs bc)(h:aX ao s L)(Y:∀b,b∈bs->ao.n<=b):l4 bc:=by
 have a5:=h.n3.n;have J:=av.n.1;have U:bc.n=s.n:=J;have g:=h.g;exact ⟨by have:=h.loc.n;omega,(av.out (c:=0) (λaa=>by have:=Y _ aa;omega)).trans g.kH,(av.out (c:=1) (λaa=>by have:=Y _ aa;omega)).trans g.dj,(av.out (c:=2) (λaa=>by have:=Y _ aa;omega)).trans g.dL⟩
theorem YA{K:V->S->ax}{st:Bool}{f e z l:Nat}{x:V}{cs:List V}{P:V->Prop}(p q:List V)(h:aX ao s L)(u:ji L (.ca x e z l cs) cu)(av:cs.all atom=true)(has:p.all ep=true)(E:q.all ep=true)(aa:∀x',dz z x' l cs->cI f (p++x'::q) P)
  (H:∀v s',P v->aX ao s' cu->jF s' cu->aV Q (K v s')) (hk:dT f=false:=by rfl):aV Q (bZ (cJ a9 false st (.fn f [] []) (p++x::q) s) K):=by
 have aE:cl ao s e z x l cs:=h.ok _ u.mem;obtain ⟨x',bc,fO,h3⟩:=vM p q aE av has E;have Y:=λb (Y:b∈b4 x)=>(aE.lo Y).1;have hw:bc.ag=bc.n:=by rw[fO.n.1,fO.n.2];rfl
 obtain ⟨v,ad,aC⟩:=(aa x' h3).1 bc hw (fO.h h Y);have hB:pT bc 0 0 0 [] (some (.af,bc)):=.inl ⟨rfl,rfl,rfl⟩;have key:∃s',cJ a9 false st (.fn f [] []) (p++x::q) s=some (v,s')∧Loc ao s'∧fX s s' (b4 x):=by
  have gg:bc.n=s.n:=fO.n.1;have ml:bc.ag=s.n:=fO.n.2;have aR:=h.loc.n;have J:=h.loc.eK;have U:=h.loc.ag;unfold cJ;rw[fO.bad];simp only[hp,hd];have E:kG dT f (p++x::q) { s with ag:=s.n } =(p++x'::q,b4 x,bc):=(s8 hk _ _).trans fO.run;rw[E];simp only[];rw[aC];simp only[qI];exact ⟨_,rfl,⟨by simp only[gg];exact aR,tF Y D,gb u1 (by simp only[gg];omega)⟩,⟨by simp only[gg];omega,λc _ aa=>fO.out aa⟩⟩
 obtain ⟨s',ba,bk,aB⟩:=key;rw[ba,js];have h':=h.GJ u bk aB;exact H _ _ ad h' h'.bX
theorem zY{K:V->S->ct->ax}{f e z l:Nat}{x:V}{cs:List V}{P:V->Prop}(p q:List V)(h:aX ao s L)(u:ji L (.ca x e z l cs) cu)(av:cs.all atom=true)(has:p.all ep=true)(E:q.all ep=true)(aa:∀x',dz z x' l cs->cI f (p++x'::q) P)
  (H:∀v s' lo hi,P v->aX ao s' cu->jF s' cu->(∀y,y∈cu-> ∀b,b∈y.hf->b∉b4 x)->aV Q (K v s' (eM none lo hi (b4 x)))) (hk:dT f=false:=by rfl):aV Q (dp (et a9 (.fn f [] []) (p++x::q) s) K):=by
 have aE:cl ao s e z x l cs:=h.ok _ u.mem;obtain ⟨x',bc,fO,h3⟩:=vM p q aE av has E;have Y:=λb (Y:b∈b4 x)=>(aE.lo Y).1;have hw:bc.ag=bc.n:=by rw[fO.n.1,fO.n.2];rfl
 obtain ⟨v,ad,aC⟩:=(aa x' h3).1 bc hw (fO.h h Y);have key:∃s',et a9 (.fn f [] []) (p++x::q) s=some (v,s',eM none s.n s.n (b4 x))∧Loc ao s'∧fX s s' (b4 x):=by
  have gg:bc.n=s.n:=fO.n.1;have ml:bc.ag=s.n:=fO.n.2;have aR:=h.loc.n;have J:=h.loc.eK;have U:=h.loc.ag;unfold et;rw[fO.bad];simp only[hp,hd];have E:kG dT f (p++x::q) { s with ag:=s.n } =(p++x'::q,b4 x,bc):=(s8 hk _ _).trans fO.run;rw[E];simp only[];rw[aC];have:Nat.blt bc.ag s.n=false:=by cases h:Nat.blt bc.ag s.n with
   |false=>rfl
   |true=>rw[gy]at h;omega
  simp only[this,gg];exact ⟨_,rfl,⟨by simp only[gg];exact aR,tF Y D,gb u1 (by simp only[gg];omega)⟩,⟨by simp only[gg];omega,λc _ aa=>fO.out aa⟩⟩
 obtain ⟨s',ba,bk,aB⟩:=key;rw[ba,pX];have h':=h.GJ u bk aB;exact H _ _ _ _ ad h' h'.bX (u.ju h.ju)
theorem PG{P:Nat->List V->Prop}{v:V}{e z l:Nat}{cs:List V}(h:aX ao s L)(ae:ao.ag=ao.n)(u:b2.ca v e z l cs∈L)(av:cs.all atom=true)(al:P l cs):aV (λr=> ∃l cs,P l cs∧cs.length=l*z∧pT ao e z l cs r) (bB ao s [some v]):=
 have aE:cl ao s e z v l cs:=h.ok _ u
 ⟨l,cs,al,aE.cells,Cl ae h.loc aE av⟩
end
theorem bz.Kb{O:bo}{G:aJ Func}{T:Types}{f:Nat}{F:Fn}(nK:bz O G T f F)(n:Nat){args:List V}{s:S}{e z:Nat}{P:Nat->List V->Prop}(h:aV (λr=> ∃l cs,P l cs∧cs.length=l*z∧pT s e z l cs r) (F (mb O G T) n args s))(hw:s.ag<=s.n):∃l cs,P l cs∧cs.length=l*z∧pT s e z l cs (mb O G T f args s):=
 let ⟨l,cs,J,U,aj⟩:=h
 ⟨l,cs,J,U,nK.runN n aj hw⟩
theorem Fc{Q:ax->Prop}{m:List Nat}{l:List ct}{k:ax}(h:fe m l=true)(h':aV Q k):aV Q (gZ (fe m l) k):=by rw[MQ h];exact h'
def mx(x:ct):Nat:=
 match x.z with
 |_::_::_=>2
 |[_]=>match x.f.w with
  |some []=>6
  |_=>2
 |[]=>match x.f.w with
  |none=>2
  |some (_::_::_)=>2
  |some [_]=>match x.f.t with
   |some [_]=>bif Nat.beq x.f.lo x.f.hi then 1 else 2
   |_=>2
  |some []=>match x.f.t with
   |some []=>bif Nat.beq x.f.lo x.f.hi then 0 else 4
   |some [_]=>bif Nat.beq x.f.lo x.f.hi then 5 else 4
   |_=>4
def pH(x:ct):Nat:=
 match x.z with
 |c::_=>c
 |[]=>match x.f.t with
  |some [b]=>b
  |_=>0
def ki(l:List ct):List Nat:=l.map mx
def nu(l:List ct):List Nat:=l.map pH
theorem OH(n:Nat):Nat.beq n n=true:=Nat.beq_refl n
theorem ahE(n:Nat):Nat.beq n (n+1)=false:=by
 cases Y:Nat.beq n (n+1) with
 |false=>rfl
 |true=>have:=kj Y;omega
theorem lZ:ki []=[]∧nu []=[]∧(∀(n:Nat) (l:List ct),ki (eM (some []) n n []::l)=0::ki l)∧(∀(n:Nat) (l:List ct),ki (eM (some []) n (n+1) []::l)=4::ki l)∧(∀(lo hi:Nat) (l:List ct),ki (eM none lo hi []::l)=4::ki l)∧
  (∀(b n:Nat) (l:List ct),ki (eM (some [b]) n n []::l)=5::ki l)∧(∀(b n:Nat) (l:List ct),ki (⟨⟨some [b],some [b],n,n⟩,[]⟩::l)=1::ki l)∧
  (∀(b lo hi:Nat) (w:Reach) (l:List ct),nu (⟨⟨some [b],w,lo,hi⟩,[]⟩::l)=b::nu l)∧(∀(b lo hi:Nat) (l:List ct),nu (eM (some [b]) lo hi []::l)=b::nu l)∧(∀(lo hi:Nat) (l:List ct),nu (eM (some []) lo hi []::l)=0::nu l)∧(∀(lo hi:Nat) (l:List ct),nu (eM none lo hi []::l)=0::nu l)∧
  (∀(c lo hi:Nat) (l:List ct),ki (eM none lo hi [c]::l)=6::ki l)∧(∀(c lo hi:Nat) (l:List ct),nu (eM none lo hi [c]::l)=c::nu l)∧(∀b o l k z:Nat,b4 (.bx b o l k z)=[b]):=by
 refine ⟨rfl,rfl,λn l=>?_,λn l=>?_,λ_ _ _=>rfl,λb n l=>?_,λb n l=>?_,λ_ _ _ _ _=>rfl,λ_ _ _ _=>rfl,λ_ _ _=>rfl,λ_ _ _=>rfl,λ_ _ _ _=>rfl,λ_ _ _ _=>rfl,λ_ _ _ _ _=>rfl⟩;show (bif Nat.beq n n then 0 else 4)::ki l=_;rw[OH];rfl;show (bif Nat.beq n (n+1) then 0 else 4)::ki l=_;rw[ahE];rfl;show (bif Nat.beq n n then 5 else 4)::ki l=_;rw[OH];rfl;show (bif Nat.beq n n then 1 else 2)::ki l=_;rw[OH];rfl
def AV(m:List Nat)(i b:Nat):Nat->List Nat->List Nat->List (Nat×Nat)
 |j,c::cs,a4::bs=>match ((Nat.beq c 5 || Nat.beq c 1) && !(fixed m i j) && !(Nat.beq i j)) || Nat.beq c 6 with
  |true=>(b,a4)::AV m i b (j+1) cs bs
  |false=>AV m i b (j+1) cs bs
 |_,_,_=> []
def ze(m cs bs:List Nat):Nat->List Nat->List Nat->List (Nat×Nat)
 |i,c::l,b::l'=>match Nat.beq c 1 with
  |true=>AV m i b 0 cs bs++ze m cs bs (i+1) l l'
  |false=>ze m cs bs (i+1) l l'
 |_,_,_=> []
def BH:List (Nat×Nat)->Prop
 |[]=>True
 |(a,b)::l=>a≠b∧BH l
theorem BH.mem:∀ {l:List (Nat×Nat)},BH l-> ∀ {p:Nat×Nat},p∈l->p.1≠p.2
 |(a,b)::l,h,p,al=>(hc.1 al).elim (λe=>e ▸ h.1) (h.2.mem)
def JN(m:List Nat)(ws:List Nat):Bool:=ws.zipIdx.all λx=>match x.1 with
 |0=>true
 |4=>true
 |5=>true
 |6=>true
 |1=>ws.zipIdx.all λy=>Nat.beq y.1 0 || fixed m x.2 y.2 || Nat.beq y.1 5 || (Nat.beq y.1 1 && !(Nat.beq x.2 y.2))
 |_=>false
theorem Sl{m:List Nat}{i b:Nat} :∀ {cs bs:List Nat} {j k c a4:Nat},cs[k]? =some c->bs[k]? =some a4->((c=5∨c=1)∧fixed m i (j+k)=false∧i≠j+k∨c=6)->(b,a4)∈AV m i b j cs bs
 |c::cs,a4::bs,j,0,_,_,J,U,aa=>by
  simp at J U;subst J U;have e:(((Nat.beq c 5 || Nat.beq c 1) && !(fixed m i j) && !(Nat.beq i j)) || Nat.beq c 6)=true:=by
   rcases aa with ⟨aa,aM,rz⟩|rfl
   rotate_left
   exact Bm _;have Y:Nat.beq i j=false:=by
    cases Y:Nat.beq i j with
    |false=>rfl
    |true=>exact absurd (kj Y) rz
   rw[zs]at aM;rw[aM,Y];rcases aa with rfl|rfl<;>rfl
  unfold AV;rw[e];exact j5 ..
 |c::cs,a4::bs,j,k+1,bj,bU,J,U,aa=>by
  have:=Sl (m:=m) (i:=i) (b:=b) (cs:=cs) (bs:=bs) (j:=j+1) (k:=k) (by simpa using J) (by simpa using U) (by rwa [pL,DY 1]);unfold AV;split;exact lG _ this;exact this
 |[],_,_,_,_,_,J,_,_=>by simp at J
 |_::_,[],_,_,_,_,_,U,_=>by simp at U
theorem Sm{m cs bs:List Nat}{p:Nat×Nat} :∀ {l l':List Nat} {i k b:Nat},l[k]? =some 1->l'[k]? =some b->p∈AV m (i+k) b 0 cs bs->p∈ze m cs bs i l l'
 |c::l,a4::l',i,0,_,J,U,al=>by
  simp at J U;subst J U;unfold ze;exact Hm _ al
 |c::l,a4::l',i,k+1,_,J,U,al=>by
  have:=Sm (m:=m) (cs:=cs) (bs:=bs) (p:=p) (l:=l) (l':=l') (i:=i+1) (k:=k) (by simpa using J) (by simpa using U) (by rwa [pL,DY 1]);unfold ze;split;exact Hl _ this;exact this
 |[],_,_,_,_,J,_,_=>by simp at J
 |_::_,[],_,_,_,_,U,_=>by simp at U
theorem DL{x:ct}(h:mx x=1):x.z=[]∧ ∃b,x.f.w=some [b]∧x.f.t=some [pH x]∧x.f.lo=x.f.hi:=by
 obtain ⟨⟨t,w,lo,hi⟩,z⟩:=x;rcases z with _|⟨c,_|⟨bj,z⟩⟩
 rcases w with _|(_|⟨b,_|⟨a4,w⟩⟩)
 cases h;rcases t with _|(_|⟨c,_|⟨d,t⟩⟩)
 cases h;have h:(bif Nat.beq lo hi then 0 else 4)=1:=h;cases Y:Nat.beq lo hi<;>rw[Y]at h<;>cases h;have h:(bif Nat.beq lo hi then 5 else 4)=1:=h;cases Y:Nat.beq lo hi<;>rw[Y]at h<;>cases h;cases h;rcases t with _|(_|⟨c,_|⟨d,t⟩⟩)
 cases h;cases h;have h:(bif Nat.beq lo hi then 1 else 2)=1:=h;cases Y:Nat.beq lo hi with
 |true=>exact ⟨rfl,b,rfl,rfl,kj Y⟩
 |false=>rw[Y]at h;cases h
 cases h;cases h;rcases w with _|(_|⟨b,w⟩)<;>cases h
 cases h
theorem Te{x:ct}(h:mx x≠2)(J:mx x≠1):(x.z=[]∨mx x=6∧x.z=[pH x])∧x.f.w=some []∧(mx x=0->x.f.t=some []∧x.f.lo=x.f.hi)∧(mx x=5->x.f.t=some [pH x]∧x.f.lo=x.f.hi):=by
 obtain ⟨⟨t,w,lo,hi⟩,z⟩:=x;rcases z with _|⟨c,_|⟨bj,z⟩⟩
 rotate_left
 rcases w with _|(_|⟨b,w⟩)
 exact absurd rfl h;exact ⟨.inr ⟨rfl,rfl⟩,rfl,λh=>(by cases h),λh=>(by cases h)⟩;exact absurd rfl h;exact absurd rfl h;cases w with
 |none=>exact absurd rfl h
 |some w=>
  cases w with
  |cons b bs=>
   exfalso;cases bs with
   |cons=>exact h rfl
   |nil=>
    rcases t with _|(_|⟨c,_|⟨d,t⟩⟩)
    exact h rfl;exact h rfl;cases Y:Nat.beq lo hi;exact h (by show (bif Nat.beq lo hi then 1 else 2)=2;rw[Y];rfl);exact J (by show (bif Nat.beq lo hi then 1 else 2)=1;rw[Y];rfl);exact h rfl
  |nil=>
   refine ⟨.inl rfl,rfl,λaR=>?_,λaR=>?_⟩;rcases t with _|(_|⟨c,_|⟨d,t⟩⟩)
   cases aR;cases Y:Nat.beq lo hi with
   |true=>exact ⟨rfl,kj Y⟩
   |false=>have aR:(bif Nat.beq lo hi then 0 else 4)=0:=aR;rw[Y]at aR;cases aR
   have aR:(bif Nat.beq lo hi then 5 else 4)=0:=aR;cases Y:Nat.beq lo hi<;>rw[Y]at aR<;>cases aR;cases aR;rcases t with _|(_|⟨c,_|⟨d,t⟩⟩)
   cases aR;have aR:(bif Nat.beq lo hi then 0 else 4)=5:=aR;cases Y:Nat.beq lo hi<;>rw[Y]at aR<;>cases aR;cases Y:Nat.beq lo hi with
   |true=>exact ⟨rfl,kj Y⟩
   |false=>have aR:(bif Nat.beq lo hi then 5 else 4)=5:=aR;rw[Y]at aR;cases aR
   cases aR
theorem tT{m:List Nat}{l:List ct}(qD:∀x,x∈l->mx x=1->x.f.w=x.f.t)(h:JN m (ki l)=true)(a5:BH (ze m (ki l) (nu l) 0 (ki l) (nu l))):fe m l=true:=by
 unfold JN at h;rw[fj]at h;have gt:∀ {i:Nat} {x:ct},l[i]? =some x->(ki l)[i]? =some (mx x)∧(nu l)[i]? =some (pH x):=λhx=>by unfold ki nu;simp[hx]
 have U:∀x,x∈l->mx x≠2:=λx hx he=>by
  obtain ⟨i,hi⟩:=sO hx;have:=h (mx x,i) (nx.2 (gt hi).1);simp only[he]at this;cases this
 have quiet:∀x,x∈l->mx x≠1->(x.z=[]∨mx x=6∧x.z=[pH x])∧x.f.w=some []:=λx hx J=>let ⟨a,b,_⟩:=Te (U x hx) J;⟨a,b⟩
 have mt:∀r:Reach,Reach.meets r (some [])=false:=λr=>by
  unfold Reach.meets;split<;>first|rfl|contradiction|(rename_i a b J U aj aH;cases aH;simp)
 unfold fe;rw[dU];constructor;rw[fj];rintro ⟨x,i⟩ hx;have v8:=DU hx;have Lr:x∈l:=hR v8;by_cases J:mx x=1;obtain ⟨aY,b,hw,aO,ih⟩:=DL J;have qB:b=pH x:=by have:=qD x Lr J;rw[hw,aO]at this;simpa using this
 subst qB;simp only[hw];have aj:=h (mx x,i) (nx.2 (gt v8).1);simp only[J,fj]at aj;rw[fj];rintro ⟨y,j⟩ aI;have C1:=DU aI;have C2:y∈l:=hR C1;have aH:=aj (mx y,j) (nx.2 (gt C1).1);cases aM:fixed m i j with
 |true=>simp
 |false=>
  have kb:x.f.lK y.f=false:=by
   have key:(mx y=5∨mx y=1)->i≠j->pH x≠pH y:=λaa rz=>by
    have al:=Sl (m:=m) (i:=i) (b:=pH x) (j:=0) (gt C1).1 (gt C1).2 (.inl ⟨aa,by rwa [gD],D⟩);have:=Sm (m:=m) (cs:=ki l) (bs:=nu l) (i:=0) (k:=i) (J ▸ (gt v8).1) (gt v8).2 (by rwa [gD]);exact a5.mem this
   simp only[aM,Bool.or_false,r1,dU,qV,Bl]at aH;have fin:∀t:Reach,(t=some []∨t=some [pH y]∧pH x≠pH y)->Reach.meets (some [pH x]) t=false:=λt aO=>by
    rcases aO with rfl|⟨rfl,ey⟩
    exact mt _;simp[Reach.meets,ey]
   have lo:y.f.lo=y.f.hi->([pH x].any λb=>Nat.ble y.f.lo b && Nat.blt b y.f.hi)=false:=λe=>by
    rw[zu];intro b _ Y;simp only[dU,eu,gy]at Y;omega
   unfold fM.lK;rw[hw];rcases aH with (aH|aH)|⟨aH,bD⟩
   obtain ⟨_,pv,aR,_⟩:=Te (x:=y) D D;obtain ⟨xA,dK⟩:=aR aH;rw[fin _ (.inl xA),fin _ (.inl pv)];simp only[lo dK,Bool.or_self];obtain ⟨_,pv,_,aR⟩:=Te (x:=y) D D;obtain ⟨xA,dK⟩:=aR aH;have rz:i≠j:=λe=>by subst e;rw[v8]at C1;cases C1;omega
   rw[fin _ (.inr ⟨xA,key (.inl aH) rz⟩),fin _ (.inl pv)];simp only[lo dK,Bool.or_self];obtain ⟨_,a4,pv,xA,dK⟩:=DL aH;have rz:i≠j:=λe=>by
    subst e;have:=Nat.beq_refl i;rw[bD]at this;cases this
   have Rn:=qD y C2 aH;rw[fin _ (.inr ⟨xA,key (.inr aH) rz⟩),Rn,fin _ (.inr ⟨xA,key (.inr aH) rz⟩)];simp only[lo dK,Bool.or_self]
  rw[kb];rfl
 simp only[(quiet x Lr J).2];unfold zr;rw[dU];constructor;rw[fj];intro x hx;by_cases J:mx x=1;rw[(DL J).1];rcases (quiet x hx J).1 with aY|⟨cF,aY⟩
 rw[aY];rw[aY];simp only[];rw[fj];intro y aI;by_cases iT:mx y=1;obtain ⟨_,b,hw,aO,_⟩:=DL iT;have qB:b=pH y:=by have:=qD y aI iT;rw[hw,aO]at this;simpa using this
 subst qB;obtain ⟨i,hi⟩:=sO aI;obtain ⟨j,aG⟩:=sO hx;have al:=Sl (m:=m) (i:=i) (b:=pH y) (j:=0) (gt aG).1 (gt aG).2 (.inr cF);have:=Sm (m:=m) (cs:=ki l) (bs:=nu l) (i:=0) (k:=i) (iT ▸ (gt hi).1) (gt hi).2 (by rwa [gD]);have:=a5.mem this;rw[hw];simp only[]at this;simp[Reach.meets,this];rw[(quiet y aI iT).2];rfl;rw[r1];left;rw[fj];intro x hx;by_cases J:mx x=1;obtain ⟨_,b,hw,_⟩:=DL J;rw[hw];rfl;rw[(quiet x hx J).2];rfl
def l8:List ct->Prop
 |[]=>True
 |x::l=>(mx x=1->x.f.w=x.f.t)∧l8 l
theorem l8.mem:∀ {l:List ct},l8 l-> ∀x,x∈l->mx x=1->x.f.w=x.f.t
 |_::_,h,x,hx=>(hc.1 hx).elim (λe=>e ▸ h.1) (h.2.mem x)
theorem l8.q{t:Reach}{lo hi:Nat}{z:List Nat}{l:List ct}(h:l8 l):l8 (eM t lo hi z::l):=⟨λJ=>(let ⟨_,_,hw,_⟩:=DL J;by cases hw),h⟩
theorem l8.w{t:Reach}{lo hi:Nat}{l:List ct}(h:l8 l):l8 (⟨⟨t,t,lo,hi⟩,[]⟩::l):=⟨λ_=>rfl,h⟩
theorem Cp{Q:ax->Prop}{m:List Nat}{l:List ct}{k:ax}(hw:l8 l)(h:JN m (ki l)=true)(a5:BH (ze m (ki l) (nu l) 0 (ki l) (nu l)))(h':aV Q k):aV Q (gZ (fe m l) k):=Fc (tT hw.mem h a5) h'
end
end Go.ah.X
namespace Go.ah.X
open Go Go.ah Go.Proofs Go.Proofs.dI
theorem pj{Q:ax->Prop}{m:List Nat}{l:List ct}{k:ax}(dE:aV Q k)(hw:l8 l:=by repeat first|exact trivial|apply l8.q|apply l8.w)(aa:JN m (ki l)=true:=by simp only[lZ];decide+kernel)(a5:BH (ze m (ki l) (nu l) 0 (ki l) (nu l)):=by simp only[lZ];repeat' first|exact trivial|refine ⟨?_,?_⟩|(rintro rfl;have:=h.ju;simp[oE,b2.hf]at this)):aV Q (gZ (fe m l) k):=Cp hw aa a5 dE
end Go.ah.X
namespace Go.ah.X
open Go Go.ah Go.Proofs.dI
theorem za{Q:ax->Prop}{k:List V->S->ax}{c:(List V->S->ax)->ax}(I:List V->S->Prop)(hk:∀vs t,I vs t->aV Q (k vs t))(aa:∀j:List V->S->ax,(∀vs t,I vs t->aV Q (j vs t))->aV Q (c j)):aV Q (aw k c):=aa k hk
theorem hO{body:(List V->S->ax)->List V->S->ax}{Q:ax->Prop}(I:Nat->List V->S->Prop){n:Nat}{vs:List V}{s:S}(k:Nat)(aR:I k vs s)(hk:k<n)
  (step:∀a3 k vs s,I k vs s->(∀k' rZ s',k'<k->I k' rZ s'->aV Q (a3 rZ s'))->aV Q (body a3 vs s)):aV Q (cT n body vs s):=
 jO (aV Q) I step n k vs s aR hk
theorem xZ:aJ.get types 22=some zl∧zl.kind=.slice 3∧aJ.get types 3=some g3:=⟨rfl,rfl,rfl⟩
theorem ac2(n:Nat)(x:V):cC n [x]=List.replicate n x:=acZ n x
theorem aik{v w:V}{a b:List Int}(ad:bV .i64 v a)(hw:bV .i64 w b)(av:ea a)(Y:ea b)(uP:a.length<=1000000)(p5:b.length<=1000000)(s:S)(ae:s.ag=s.n)(au:l4 s):
  l5 s 3 .i64 (λl=>ea l∧a0 l=a0 a+a0 b∧l.length<=1000001) (a9 199 [v,w] s):=
 (Vs (cv aS)).GK 1000002 (by
  show aV (l5 s 3 .i64 _) (Iz a9 1000002 v w s);unfold Iz;simp only[cw];generalize eO:1000002=F;simp (disch:=omega) only[st,bg,ad.len,hw.len];refine za (λvs t=>t=s∧ ∃(x y:V) (A B:List Int),vs=[x,y]∧bV .i64 x A∧bV .i64 y B∧ea A∧ea B∧A.length<=B.length∧B.length<=1000000∧a0 A+a0 B=a0 a+a0 b) ?_ λj aG=>?_;rintro _ s ⟨rfl,x,y,A,B,rfl,hx,aI,gW,fE,akY,Z,fx⟩;rw[<-fx];clear ad hw av Y uP p5 fx;have h:=aX.nil ae au;have r:=h.bX;simp (disch:=omega) only[fU,st,bg,aI.len,bT];refine Ff h xZ.1 xZ.2.1 xZ.2.2 D (by rw[show g3.bytes=8 from rfl];omega) D (z:=1) rfl rfl λout s1 h r=>?_;rw[show ((B.length:Int)+1).toNat=B.length+1 by omega,show zero g3=[.int .i64 0] from rfl,ac2,<-BE]at h;simp (disch:=omega) only[fU,st,bg,aI.len];refine hO (λk vs t=> ∃(o:List Int) (i:Nat) (c:Int),vs=[.int .i64 i,.int .i64 (B.length:Int),y,x,y,.int .i64 c,out]∧aX s t [.ca out 3 1 (B.length+1) (fp o)]∧ea o∧o.length=B.length+1∧0<=c∧c<=1∧
   a0 o+ck i*c=a0 (A.take i)+a0 (B.take i)∧(∀j,i<=j->o.getD j 0=0)∧i+k=B.length) B.length ⟨_,0,0,rfl,h,EP _,vo,D,D,by rw[Tr];simp[a0],λj _=>by simp[ir,M3];split<;>rfl,D⟩ D ?_
  rintro a3 k _ t ⟨o,i,c,rfl,h,n8,kJ,uF,hB,fx,aY,na⟩ cR;by_cases hi:i<B.length;have xp:=jt fE i;have nL:=jt gW i;have v5:∀(d bj:Int),0<=d->d<1000000000->0<=bj->bj<=1->d+1000000000*bj=A.getD i 0+B.getD i 0+c-> ∀p,dW 1 out (.int .i64 (i:Int))=some p->
    aV (l5 s 3 .i64 (λl=>ea l∧a0 l=a0 A+a0 B∧l.length<=1000001)) (bZ (c6 t (ef 1 p (.int .i64 d) (aN t))) λ_ t'=>a3 [.int .i64 ((i:Int)+1),.int .i64 (B.length:Int),y,x,y,.int .i64 bj,out] t'):=by
   intro d bj J U aj aH he p al;obtain ⟨dA,aC,ba⟩:=yB (Q:=l5 s 3 .i64 (λl=>ea l∧a0 l=a0 A+a0 B∧l.length<=1000001)) (k:=.i64) (i:=(i:Int)) (x:=.int .i64 d) h (.here _ _ _) D D rfl;cases al.symm.trans aC;refine ba _ λt' h r=>cR (k - 1) _ _ D ⟨o.set i d,i+1,bj,rfl,by rwa [dZ,<-q4]at h,xd n8 _ ⟨J,U⟩,by simpa using kJ,aj,aH,?_,λj aG=>?_,D⟩;rw[rX _ _ _ D,aY i (cg _),Int.sub_zero,sb,qT,qT];have:ck i*(d+1000000000*bj)=ck i*(A.getD i 0+B.getD i 0+c):=by rw[he]
   rw[qZ,qZ,qZ,<-wR,oA (ck i) 1000000000]at this;omega;rw[qz _ _ _ _ D];exact aY j D
  obtain ⟨p,aC,_⟩:=yB (Q:=λ_=>True) (k:=.i64) (i:=(i:Int)) (x:=.int .i64 0) h (.here _ _ _) D D rfl;by_cases hU:i<A.length;by_cases si:1000000000<=B.getD i 0+c+A.getD i 0;simp (disch:=omega) only[fU,st,bg,aI.c1,hx.c1,hx.len,hb,dZ,bT,aC];exact v5 _ 1 D D D D D p aC;simp (disch:=omega) only[fU,st,bg,aI.c1,hx.c1,hx.len,hb,dZ,bT,aC];exact v5 _ 0 D D D D D p aC;have aR:A.getD i 0=0:=xj _ _ D;by_cases si:1000000000<=B.getD i 0+c;simp (disch:=omega) only[fU,st,bg,aI.c1,hx.c1,hx.len,hb,dZ,bT,aC];exact v5 _ 1 D D D D D p aC;simp (disch:=omega) only[fU,st,bg,aI.c1,hx.c1,hx.len,hb,dZ,bT,aC];exact v5 _ 0 D D D D D p aC;have amq:i=B.length:=D;subst amq;obtain ⟨p,aC,ba⟩:=yB (Q:=l5 s 3 .i64 (λl=>ea l∧a0 l=a0 A+a0 B∧l.length<=1000001)) (k:=.i64) (i:=(B.length:Int)) (x:=.int .i64 c) h (.here _ _ _) D D rfl;simp (disch:=omega) only[fU,st,bg,aI.len,aC];refine ba _ λt' h r=>?_;rw[dZ,<-q4]at h;have aE:cl s t' 3 1 out (o.set B.length c).length (fp (o.set B.length c)):=by rw[oC,kJ];exact h.ok _ (j5 ..)
  rw[oB,l2 akY]at fx;refine E5 ae h.loc aE ⟨xd n8 _ ⟨uF,D⟩,?_,by rw[oC];omega⟩;rw[rX _ _ _ D,aY _ (cg _),Int.sub_zero];exact fx;by_cases h:a.length<b.length;simp (disch:=omega) only[st];exact aG _ _ ⟨rfl,v,w,a,b,rfl,ad,hw,av,Y,D,p5,rfl⟩;simp (disch:=omega) only[st];exact aG _ _ ⟨rfl,w,v,b,a,rfl,hw,ad,Y,av,D,uP,D⟩) D
theorem aky{ao s:S}{L cu:List b2}{Q:ax->Prop}{K:V->S->ax}{e z l:Nat}{te:cb}{x y:V}{cs d:List V}(h:aX ao s L)(u:qu L (.ca x e z l cs) (.ca x e z l d) cu)(Z:0<l)(aI:lk s z y l d)(ai:d.all bL=true)(ae:te.size=z)
  (H:∀s',aX ao s' cu->jF s' cu->aV Q (K (.int .i64 l) s')):aV Q (bZ (c6 s (zQ te x y (aN s))) K):=by
 have aE:cl ao s e z x l cs:=h.ok _ u.mem;cases aE with
 |nil=>omega
 |cc b l cs bw Y aa=>
  have C2:=aI.cells;have hm:min l l=l - 1+1:=D;have a7:Nat.beq d.length (l*te.size)=true:=by rw[qV,ae];exact C2
  have aO:d.take ((l - 1+1)*te.size)=d:=by rw[ae,show l - 1+1=l by omega,<-C2,oB]
  have aC:zQ te (.bx b 0 l l z) y (aN s)=match ow (aN s) b 0 d with
    |some s=>some (.int .i64 l,s)
    |none=>none:=by
   unfold zQ;rw[aI.bad];show copyV te (aN s) (.bx b 0 l l z) y=_;unfold copyV;simp only[aI.items ae,hm,a7,aO];rw[show l - 1+1=l by omega];cases ow (aN s) b 0 d<;>rfl
  obtain ⟨s',ba,bb,bk,aB,_⟩:=dN.write h.loc Y (j:=0) (l:=d) D ai;have cd:c6 s (zQ te (.bx b 0 l l z) y (aN s))=some (.int .i64 l,s'):=by
   rw[<-ba (.int .i64 l),aC];cases ow (aN s) b 0 d<;>rfl
  rw[cd,js];have ani:gp cs 0 d=d:=by
   unfold gp;rw[sP,hp,pb D,hd]
  rw[ani]at bb;have h':=h.up u bk aB (.cc b l _ bw bb C2) (λb Y=>.inl Y);exact H _ h' h'.bX
theorem asK{a b:List Int}(av:ea a)(Y:ea b)(h:a0 b<=a0 a):a0 (b.take a.length)=a0 b:=by
 have aj:=ou av;have bD:=nw (vF a.length Y);have fL:a0 b=a0 (b.take a.length)+ck a.length*a0 (b.drop a.length):=by
  by_cases n6:a.length<=b.length;exact rW b _ n6;rw[l2 D,pb D];simp[a0]
 have cF:=nw (zS a.length Y);have dV:=l9 a.length;have jH:a0 (b.drop a.length)=0:=by
  rcases (show a0 (b.drop a.length)=0∨1<=a0 (b.drop a.length) by omega) with h|h
  exact h;have:ck a.length*1<=ck a.length*a0 (b.drop a.length):=nz h D;omega
 rw[jH]at fL;omega
theorem asf{b:List Int}(Y:ea b)(n:Nat):a0 (b.take n)<=a0 b:=by
 by_cases h:n<=b.length;have J:=rW b n h;have U:=nw (zS n Y);have aj:=l9 n;have aH:0<=ck n*a0 (b.drop n):=wQ D U;omega;rw[l2 D];exact vn _
theorem ash{o:List Int}{i:Nat}(hi:i+1=o.length)(ai:∀j,j<i->0<=o.getD j 0∧o.getD j 0<1000000000)(ad:0<=a0 o):0<=o.getD i 0:=by
 have J:=qT o i;rw[l2 D]at J;have al1:ea (o.take i):=λx hx=>by
  obtain ⟨j,aG⟩:=sO hx;rw[Bs]at aG;split at aG;rename_i h;have:=ai j h;rw[ir,aG]at this;exact this;cases aG
 have U:=ou al1;have aj:ck (o.take i).length=ck i:=by rw[kV,ny D]
 rw[aj]at U;have aH:=l9 i;rcases (show 0<=o.getD i 0∨o.getD i 0<= -1 by omega) with h|h
 exact h;have:ck i*o.getD i 0<=ck i*(-1):=nz h D;omega
theorem JE{v w:V}{a b:List Int}(ad:bV .i64 v a)(hw:bV .i64 w b)(av:ea a)(Y:ea b)(uP:a.length<=1000000)(p5:b.length<=1000000)(aR:0<a.length)(hle:a0 b<=a0 a)(s:S)(ae:s.ag=s.n)(au:l4 s):
  l5 s 3 .i64 (λl=>ea l∧a0 l=a0 a - a0 b∧l.length<=1000000) (a9 201 [v,w] s):=
 (Vu (cv aS)).GK 1000002 (by
  show aV (l5 s 3 .i64 _) (IB a9 1000002 v w s);unfold IB;simp only[cw];generalize eO:1000002=F;have h:=aX.nil ae au;have r:=h.bX;simp (disch:=omega) only[st,bg,ad.len];refine Ff h xZ.1 xZ.2.1 xZ.2.2 D (by rw[show g3.bytes=8 from rfl];omega) D (z:=1) rfl rfl λout s1 h r=>?_;rw[dZ]at h;refine aky h (.here _ _ _) aR (.ew _ _ _ ad) (Lv _ _) rfl λs2 h r=>?_;have hlen:∀t L,aX s t (.ca out 3 1 a.length L:: [])->fP out=some (.int .i64 a.length):=λt L h=>(show cl s t 3 1 out a.length L from h.ok _ (j5 ..)).len;simp (disch:=omega) only[fU,st,bg,hlen _ _ h];refine hO (λk vs t=> ∃(o:List Int) (i:Nat),vs=[.int .i64 i,.int .i64 (a.length:Int),w,out]∧aX s t [.ca out 3 1 a.length (fp o)]∧o.length=a.length∧(∀j,j<i->0<=o.getD j 0∧o.getD j 0<1000000000)∧
   (o.getD i 0=a.getD i 0∨o.getD i 0=a.getD i 0 - 1)∧(∀j,i<j->o.getD j 0=a.getD j 0)∧a0 o=a0 a - a0 (b.take i)∧i+k=a.length) a.length ⟨a,0,rfl,h,rfl,λj aG=>D,.inl rfl,λ_ _=>rfl,by rw[sP];simp[a0],D⟩ D ?_
  rintro a3 k _ t ⟨o,i,rfl,h,kJ,ih,KH,jw,Rj,na⟩ cR;have nL:=jt av i;have xp:=jt Y i;have aE:cl s t 3 1 out a.length (fp o):=h.ok _ (j5 ..);by_cases hi:i<a.length;obtain ⟨p,aC,ba⟩:=aE.at .i64 (i:=(i:Int)) D D;rw[dZ,C4 _ D]at ba;simp (disch:=omega) only[st,bg];rw[PA];simp (disch:=omega) only[st,bg];rw[PA];simp (disch:=omega) only[st,bg,hw.len];refine za (λvs t'=> ∃o':List Int,vs=[.int .i64 i,.int .i64 i,.int .i64 (a.length:Int),w,out]∧aX s t' [.ca out 3 1 a.length (fp o')]∧o'.length=a.length∧(∀j,j<i->o'.getD j 0=o.getD j 0)∧o'.getD i 0=o.getD i 0 - b.getD i 0∧(∀j,i<j->o'.getD j 0=a.getD j 0)∧
   a0 o'=a0 a - a0 (b.take (i+1))) ?_ λj aG=>?_
  rintro _ t' ⟨o',rfl,h',aag,QF,at5,FC,aax⟩;have jL:cl s t' 3 1 out a.length (fp o'):=h'.ok _ (j5 ..);obtain ⟨p,aC,ba⟩:=jL.at .i64 (i:=(i:Int)) D D;rw[dZ,C4 _ D]at ba;by_cases vY:o'.getD i 0<0;have yQ:i+1<a.length:=by
   rcases (show i+1<a.length∨i+1=a.length by omega) with h|h
   exact h;have J:=asf Y (i+1);have:=ash (o:=o') (i:=i) D (λj aG=>by rw[QF j aG];exact ih j aG) D;omega
  have auW:=jt av (i+1);obtain ⟨dA,cd,ff⟩:=yB (Q:=l5 s 3 .i64 (λl=>ea l∧a0 l=a0 a - a0 b∧l.length<=1000000)) (k:=.i64) (i:=(i:Int)) (x:=.int .i64 (o'.getD i 0+1000000000)) h' (.here _ _ _) D D rfl;cases cd.symm.trans aC;simp (disch:=omega) only[fU,st,bg,aC,ba,bT];refine ff _ λt2 U bM=>?_;rw[dZ,<-q4]at U;have QQ:cl s t2 3 1 out a.length (fp (o'.set i (o'.getD i 0+1000000000))):=U.ok _ (j5 ..);obtain ⟨q,f1,f2⟩:=QQ.at .i64 (i:=(i:Int)+1) D D;rw[show ((i:Int)+1).toNat=i+1 by omega,C4 _ (by rw[oC];omega),qz _ _ _ _ D,FC _ D]at f2;obtain ⟨q',f3,f4⟩:=yB (Q:=l5 s 3 .i64 (λl=>ea l∧a0 l=a0 a - a0 b∧l.length<=1000000)) (k:=.i64) (i:=(i:Int)+1) (x:=.int .i64 (a.getD (i+1) 0 - 1)) U (.here _ _ _) D D rfl;cases f3.symm.trans f1;simp (disch:=omega) only[fU,st,bg,f1,f2,bT];refine f4 _ λt3 aj jB=>?_;refine cR (k - 1) _ _ D ⟨(o'.set i (o'.getD i 0+1000000000)).set (i+1) (a.getD (i+1) 0 - 1),i+1,rfl,?_,by simpa using aag,λj aG=>?_,.inr ?_,λj aG=>?_,?_,D⟩
  rwa [show ((i:Int)+1).toNat=i+1 by omega,<-q4]at aj
  rw[qz _ _ _ _ D];by_cases vW:j=i;subst vW;have:(o'.set j (o'.getD j 0+1000000000)).getD j 0=o'.getD j 0+1000000000:=by simp[ir,Bo,show j<o'.length by omega]
  rw[this];omega;rw[qz _ _ _ _ D,QF j D];exact ih j D;simp[ir,Bo,show i+1<o'.length by omega];rw[qz _ _ _ _ D,qz _ _ _ _ D];exact FC j D;rw[rX _ _ _ (by rw[oC];omega),rX _ _ _ D,qz _ _ _ _ D,FC (i+1) D,sb,aax];have:ck i*(o'.getD i 0+1000000000 - o'.getD i 0)=1000000000*ck i:=by rw[show o'.getD i 0+1000000000 - o'.getD i 0=1000000000 by omega,oA]
  have aH:1000000000*ck i*(a.getD (i+1) 0 - 1 - a.getD (i+1) 0)= - (1000000000*ck i):=by rw[show a.getD (i+1) 0 - 1 - a.getD (i+1) 0= -1 by omega];omega
  omega;simp (disch:=omega) only[fU,st,bg,aC,ba,bT];refine cR (k - 1) _ _ D ⟨o',i+1,rfl,h',aag,λj aG=>?_,.inl (FC _ D),λj aG=>FC j D,aax,D⟩;by_cases vW:j=i;subst vW;omega;rw[QF j D];exact ih j D;by_cases n6:i<b.length;obtain ⟨dA,cd,ff⟩:=yB (Q:=l5 s 3 .i64 (λl=>ea l∧a0 l=a0 a - a0 b∧l.length<=1000000)) (k:=.i64) (i:=(i:Int)) (x:=.int .i64 (o.getD i 0 - b.getD i 0)) h (.here _ _ _) D D rfl;cases cd.symm.trans aC;simp (disch:=omega) only[fU,st,bg,hw.len,hw.c1,hb,dZ,aC,ba,bT];refine ff _ λt2 U bM=>?_;rw[dZ,<-q4]at U;have anf:(o.set i (o.getD i 0 - b.getD i 0)).getD i 0=o.getD i 0 - b.getD i 0:=by simp[ir,Bo,show i<o.length by omega]
  refine aG _ _ ⟨_,rfl,U,by simpa using kJ,λj aG=>qz _ _ _ _ D,anf,λj aG=>by rw[qz _ _ _ _ D];exact jw j aG,?_⟩;rw[rX _ _ _ D,qT,Rj];have:ck i*(o.getD i 0 - b.getD i 0 - o.getD i 0)= - (ck i*b.getD i 0):=by rw[show o.getD i 0 - b.getD i 0 - o.getD i 0= - b.getD i 0 by omega,Int.mul_neg]
  omega;have Fs:b.getD i 0=0:=xj _ _ D;simp (disch:=omega) only[fU,st,bg,hw.len];refine aG _ _ ⟨o,rfl,h,kJ,λ_ _=>rfl,D,jw,?_⟩;rw[qT,Fs,Rj];omega;have FF:i=a.length:=D;subst FF;simp (disch:=omega) only[fU,st,bg,aE.len];have jL:cl s t 3 1 out o.length (fp o):=by rw[kJ];exact aE
  refine E5 ae h.loc jL ⟨XU λp al=>ih p D,?_,D⟩;rw[Rj,asK av Y hle]) D
end Go.ah.X
