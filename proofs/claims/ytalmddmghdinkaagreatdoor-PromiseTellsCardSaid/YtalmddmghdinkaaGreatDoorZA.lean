/-
  A part: lemmas; conditions: those that each names.
-/
import Derived.Test.YtalmddmghdinkaaGreatDoorZ
set_option linter.all false
set_option linter.deprecated false
noncomputable section
set_option maxHeartbeats 8000000
set_option maxRecDepth 20000
namespace Go.ah.X
open Go Go.ah Go.Proofs.dI
section
def vx(X:List b2){α:Type}(z:Nat)(R:α->List V->Prop)(xs:List α)(v:V):Prop:= ∃cs,eX z R xs cs∧(dz z v xs.length cs∨ ∃e,b2.ca v e z xs.length cs∈X)
def kX(X bJ:List b2):Prop:= ∀v e z l c,b2.ca v e z l c∈X->b2.ca v e z l c∈bJ
theorem kX.t{X:List b2}{x:b2} :kX X (x::X):=λ_ _ _ _ _ h=>.tail _ h
theorem kX.ME{X:List b2}{x y:b2} :kX X (x::y::X):=λ_ _ _ _ _ h=>.tail _ (.tail _ h)
theorem vx.mono{X bJ:List b2}{α:Type}{z:Nat}{R:α->List V->Prop}{xs:List α}{v:V}(h:vx X z R xs v)(ae:kX X bJ):vx bJ z R xs v:=let ⟨cs,J,U⟩:=h;⟨cs,J,U.imp id λ⟨e,h⟩=>⟨e,ae _ _ _ _ _ h⟩⟩
theorem fY.lZ{X:List b2}{α:Type}{z:Nat}{R:α->List V->Prop}{xs:List α}{v:V}(h:fY z R xs v):vx X z R xs v:=let ⟨cs,J,U⟩:=h;⟨cs,U,.inl J⟩
def q5(X:List b2)(p:gT)(cs:List V):Prop:= ∃iO fA gC gx g4 gh gQ cD jD kq fQ bM jB hL bb bU cP c7,cs=[iO,fA,gC,gx,g4,gh,gQ,cD,jD,kq,fQ,bM,jB,hL,bb,bU,cP,c7]∧
 vx X 2 l7 p.shape iO∧db 100 1 p.hx fA gC gx g4∧db 100 1 p.aI gh gQ cD jD∧vx X 13 wY p.ek kq∧([fQ,bM,jB,hL,bb,bU,cP,c7]:List V).all atom=true∧bL iO=true∧bL kq=true
theorem q5.mono{X bJ:List b2}{p:gT}{cs:List V}(h:q5 X p cs)(ae:kX X bJ):q5 bJ p cs:=by
 obtain ⟨iO,fA,gC,gx,g4,gh,gQ,cD,jD,kq,fQ,bM,jB,hL,bb,bU,cP,c7,rfl,J,U,aj,aH,bD⟩:=h;exact ⟨_,_,_,_,_,_,_,_,_,_,_,_,_,_,_,_,_,_,rfl,J.mono ae,U,aj,aH.mono ae,bD⟩
theorem q5.c0{X:List b2}{p:gT}{cs:List V}(h:q5 X p cs):cs.all bL=true∧cs.length=18:=by
 obtain ⟨iO,fA,gC,gx,g4,gh,gQ,cD,jD,kq,fQ,bM,jB,hL,bb,bU,cP,c7,rfl,J,U,aj,aH,bD,cF,dV⟩:=h;refine ⟨?_,rfl⟩;have b1:=dB U.atoms;have cq:=dB aj.atoms;have cV:=dB bD;simp only[gS,dU]at b1 cq cV ⊢;simp[cF,dV,b1,cq,cV]
inductive ky(X:List b2):List gT->List V->Prop
 |nil:ky X [] []
 |cons (p:gT) (c:List V) (ps:List gT) (cs:List V) (h:q5 X p c) (ae:ky X ps cs):ky X (p::ps) (c++cs)
section
variable {X bJ:List b2}{ps qM:List gT}{p:gT}{c cs dg:List V}
theorem ky.mono(h:ky X ps cs)(ae:kX X bJ):ky bJ ps cs:=by
 induction h with
 |nil=>exact .nil
 |cons p c ps cs h _ a3=>exact .cons _ _ _ _ (h.mono ae) a3
theorem ky.app(h:ky X ps cs)(h':ky X qM dg):ky X (ps++qM) (cs++dg):=by
 induction h with
 |nil=>exact h'
 |cons p c ps cs h _ a3=>rw[vl];exact .cons _ _ _ _ h a3
theorem ky.one(h:q5 X p c):ky X [p] c:=by
 have:=ky.cons p c [] [] h .nil
 rwa [hd]at this
theorem ky.len(h:ky X ps cs):cs.length=ps.length*18:=by
 induction h with
 |nil=>rfl
 |cons p c ps cs h _ a3=>rw[hZ,h.c0.2,a3,qW];omega
theorem ky.at(h:ky X ps cs){i:Nat}(hi:i<ps.length):∃p c r,ps[i]? =some p∧q5 X p c∧cs.drop (i*18)=c++r:=by
 induction h generalizing i with
 |nil=>simp at hi
 |cons p c ps cs h _ a3=>
  cases i with
  |zero=>exact ⟨p,c,cs,rfl,h,by rw[Bq,h5]⟩
  |succ i=>
   obtain ⟨dA,bj,r,J,U,aj⟩:=a3 (i:=i) (by simpa using hi);refine ⟨dA,bj,r,by simpa using J,U,?_⟩;rw[wN,DY,<-h.c0.2,M6,h.c0.2,aj]
theorem cH.int{n A:Nat}{p:Int}{a b c d:V}(h:cH n ((p:Int):Rat) a b c d)(al:p.natAbs<=A):db A 1 ((p:Int):Rat) a b c d:=⟨h.1,by rw[Rat.num_intCast];exact al,by rw[Rat.den_intCast];exact cg _⟩
end
def Bj:qo:=⟨false,0,0⟩
def Ce(k:Nat):oD:=⟨k,(1:Int),0,0⟩
def JS(k:Nat):oD:=⟨k,0,(1:Int),0⟩
def ek(k:Nat):oD:=⟨k,0,0,(1:Int)⟩
def B3(k:Nat)(c5:List (Int×Int))(x y:Int)(w:Bool):gT:=⟨c5,(x:Int),(y:Int),[Ce k,JS (k+1)]++(match w with
 |true=> [ek (k+2)]
 |false=> [])⟩
def zL(w:Bool):List qo:=[Bj,Bj]++(match w with
 |true=> [Bj]
 |false=> [])
def agY(X:List b2)(dg:List qo)(ps:List gT)(P:gT)(aQ:List qo)(gM j2 v:V)(cu:List b2):Prop:=
 ∃eZ eg yp jk jb jS,v=.agg [eZ,eg,gM,j2]∧cu=.ca eg 88 18 (ps.length+1) jb:: .ca yp 132 13 P.ek.length jS:: .ca eZ 130 17 (dg.length+aQ.length) jk::X∧
  eX 17 ug (dg++aQ) jk∧eX 13 wY P.ek jS∧ky (.ca yp 132 13 P.ek.length jS::X) (ps++ [P]) jb
theorem Tm:G4.bytes=264∧G5.bytes=304∧Ti.bytes=200:=⟨rfl,rfl,rfl⟩
section
variable {a b c d e f g i:V}{k:Nat}
theorem acJ{v:V}{l:List V}(h:atom v=true)(h':l.all atom=true):(v::l).all atom=true:=by rw[gS,h,h'];rfl
theorem DD{u v w z:V}(J:bL u=true)(U:bL v=true)(aj:bL w=true)(aH:bL z=true):([u,v,w,z]:List V).all bL=true:=by simp[J,U,aj,aH]
theorem TI{l l':List V}{x:Rat}(h:cH 1 x a b c d)(h':l'.all atom=true)(Z:l.all atom=true:=by rfl):(l++(.bool false:: .af:: .bool false:: .af::a::b::c::d::l')).all atom=true:=by
 rw[Bx,Z];exact eC h h'
theorem L5(h:cH 1 ((1:Int):Rat) a b c d):db 2 2 ((1:Int):Rat) a b c d:=(h.int (A:=2) aS).mono (cg _) aS
theorem wK:db 2 2 0 (.bool false) .af (.bool false) .af:=ns.mono aS aS
theorem Hg:db 100 100 0 (.bool false) .af (.bool false) .af:=ns.mono aS aS
theorem JM(J:cH 1 ((1:Int):Rat) a b c d)(U:cH 1 ((1:Int):Rat) e f g i):eX 13 wY [Ce k,JS (k+1)] [.int .i64 k,a,b,c,d,.bool false,.af,.bool false,.af,.bool false,.af,.bool false,.af,.int .i64 (k+1),.bool false,.af,.bool false,.af,e,f,g,i,.bool false,.af,.bool false,.af]:=
 .cons _ [.int .i64 k,a,b,c,d,.bool false,.af,.bool false,.af,.bool false,.af,.bool false,.af] _ [.int .i64 (k+1),.bool false,.af,.bool false,.af,e,f,g,i,.bool false,.af,.bool false,.af] ⟨_,_,_,_,_,_,_,_,_,_,_,_,rfl,L5 J,wK,wK⟩ rfl (acJ rfl (eC J rfl)) (.cons _ [.int .i64 (k+1),.bool false,.af,.bool false,.af,e,f,g,i,.bool false,.af,.bool false,.af] _ [] ⟨_,_,_,_,_,_,_,_,_,_,_,_,rfl,wK,L5 U,wK⟩ rfl (TI (l:=[.int .i64 (k+1)]) U rfl) .nil)
theorem OZ(J:cH 1 ((1:Int):Rat) a b c d):eX 13 wY [ek (k+2)] [.int .i64 (k+2),.bool false,.af,.bool false,.af,.bool false,.af,.bool false,.af,a,b,c,d]:=
 .one ⟨_,_,_,_,_,_,_,_,_,_,_,_,rfl,wK,wK,L5 J⟩ rfl (TI (l:=[.int .i64 (k+2),.bool false,.af,.bool false,.af]) J rfl)
theorem Ma{iO kq fA gC gx g4 gh gQ cD jD:V}{x y z w:Rat}(aR:bL iO=true)(aa:bL kq=true)(J:cH 1 x fA gC gx g4)(U:cH 1 y gh gQ cD jD)(aj:cH 1 z a b c d)(aH:cH 1 w e f g i):([iO,fA,gC,gx,g4,gh,gQ,cD,jD,kq,a,b,c,d,e,f,g,i]:List V).all bL=true:=by
 have b1:=dB J.atoms;have cq:=dB U.atoms;have cV:=dB aj.atoms;have dn:=dB aH.atoms;simp only[gS,dU]at b1 cq cV dn ⊢;simp[aR,aa,b1,cq,cV,dn]
theorem O6(J:([a,b,c,d,e,f,g,i]:List V).all atom=true):ug Bj [a,b,c,d,e,f,g,i,.bool false,.bool false,.af,.bool false,.af,.bool false,.af,.bool false,.af]:=⟨_,_,_,_,_,_,_,_,_,_,_,_,_,_,_,_,rfl,J,Hg,Hg⟩
theorem XH{x:Rat}(J:cH 1 x a b c d):eX 17 ug [Bj] [a,b,c,d,.bool false,.af,.bool false,.af,.bool false,.bool false,.af,.bool false,.af,.bool false,.af,.bool false,.af]:=.one (O6 (eC J rfl)) rfl (eC J rfl)
theorem OX{x y:Rat}(J:cH 1 x a b c d)(U:cH 1 y e f g i):eX 17 ug [Bj,Bj] [a,b,c,d,.bool false,.af,.bool false,.af,.bool false,.bool false,.af,.bool false,.af,.bool false,.af,.bool false,.af,a,b,c,d,e,f,g,i,.bool false,.bool false,.af,.bool false,.af,.bool false,.af,.bool false,.af]:=
 .cons _ [a,b,c,d,.bool false,.af,.bool false,.af,.bool false,.bool false,.af,.bool false,.af,.bool false,.af,.bool false,.af] _ [a,b,c,d,e,f,g,i,.bool false,.bool false,.af,.bool false,.af,.bool false,.af,.bool false,.af] (O6 (eC J rfl)) rfl (eC J rfl) (.one (O6 (eC J (eC U rfl))) rfl (eC J (eC U rfl)))
end
attribute [local irreducible] jj bZ dp aF gZ cJ et c6 e9 eT aW aw cT bB e5 fD ef gv fl eV fe aV
theorem ae7{ao s:S}{L uc pS:List b2}{dg:List qo}{ps:List gT}{eZ eg gM j2 ql:V}{jk jb:List V}{c5:List (Int×Int)}{x y n:Int}(w:Bool)(h:aX ao s L)(de:ji L (.ca eZ 130 17 dg.length jk) uc)(ej:ji uc (.ca eg 88 18 ps.length jb) pS)(a5:pS.all b2.u3=true)(tv:bL gM=true)(Qz:bL j2=true)
  (ai:eX 17 ug dg jk) (al:ky pS ps jb) (Q7:fY 2 l7 c5 ql) (fF:dg.length<=8) (gF:ps.length<=8) (hx:x.natAbs<=100) (aI:y.natAbs<=100) (sm:0<=n) (gg:n<=100):
  pU ao (agY pS dg ps (B3 dg.length c5 x y w) (zL w) gM j2) (a9 31 [.agg [eZ,eg,gM,j2],ql,.int .i64 x,.int .i64 y,.int .i64 n,.bool w] (X.aN s)):=
 (agj (cv aS)).uD 0 (by
  show aV _ (NV a9 0 (.agg [eZ,eg,gM,j2]) ql (.int .i64 x) (.int .i64 y) (.int .i64 n) (.bool w) (X.aN s));unfold NV;simp only[cw];have Z:=(h.bx de.mem).len;have h:=h.aN;have r:=h.bX;have Lj:bL ql=true:=by obtain ⟨cs,aM,_⟩:=Q7;exact aM.bL
  have Y:=Tm;cases w;all_goals
   have bC:=ar @Z (ar @G7 @bT);repeat' first
    |refine cO ?_
    |refine cf h λ_ _ h r=>?_
    |refine lp h (q2 (p:=1) (q:=1+n % 3)) λi1 i2 i3 i4 DO=>?_
    |refine lp h (q2 (p:=0 - (1+n / 3 % 3)) (q:=8)) λbk cn dM eU jP=>?_
    |refine lp h (ua (p:=x)) λfA gC gx g4 Bc=>?_
    |refine lp h (ua (p:=y)) λgh gQ cD jD MP=>?_
    |refine lp h (q2 (p:=n / 9 % 4) (q:=2)) λfQ bM jB hL zn=>?_
    |refine lp h (q2 (p:=n / 36 % 3) (q:=2)) λbb bU cP c7 a0=>?_
    |refine lp h (ua (p:=1)) λ_ _ _ _ Tt=>?_
    |refine c9 h cj (λ_ h r=>?_) (hx:=dB (cH.atoms c3))
    |refine c9 h cj (λ_ h r=>?_) (hx:=Ma Lj rfl Bc MP zn a0)
    |refine oT h (l:=[_,_,_,_,_,_,_,_,_,_,_,_,_,_,_,_,_,_,_,_,_,_,_,_,_,_,_,_,_,_,_,_,_,_]) rfl rfl λ_ _ h r=>?_
    |refine vN h (by repeat first|exact .here _ _|assumption|apply ji.there) (h.bx (.head _)) (dB (OX DO jP).atoms) rfl aS (by rw[Y.1];omega) λ_ _ h r=>?_
    |refine p1 h cj (h.c0 (.head _)) (λ_ h r=>?_)
    |refine oT h (l:=[_,_,_,_,_,_,_,_,_,_,_,_,_,_,_,_,_,_,_,_,_,_,_,_,_,_]) rfl rfl λyp _ h r=>?_
    |refine vN h (by repeat first|exact .here _ _|assumption|apply ji.there) (h.bx (.head _)) (Ma Lj (h.c0 eB) Bc MP zn a0) rfl aS (by rw[Y.2.1];omega) λ_ _ h r=>?_
    |refine oT h (l:=[_,_,_,_,_,_,_,_,_,_,_,_,_,_,_,_,_,_]) rfl rfl λ_ _ h r=>?_
    |refine c9 h cj (λ_ h r=>?_) (hx:=DD (h.c0 eB) (h.c0 eB) tv Qz)
    |refine eN h (q2 (p:=2) (q:=1)) λ_ _ _ _ ad9=>?_
    |refine eN h (ua (p:=1)) λ_ _ _ _ G9=>?_
    |refine xi h (l:=[_,_,_,_,_,_,_,_,_,_,_,_,_,_,_,_,_]) rfl rfl λ_ _ _ h r=>?_
    |refine xi h (l:=[_,_,_,_,_,_,_,_,_,_,_,_,_]) rfl rfl λ_ _ _ h r=>?_
    |refine yy h (by repeat first|exact .here _ _|assumption|apply ji.there) (h.bx (.head _)) (dB (XH ad9).atoms) rfl aS (by rw[Y.1];omega) λ_ _ _ _ _ h r=>?_
    |refine yy h (by repeat first|exact .here _ _|assumption|apply ji.there) (h.bx (.head _)) (dB (OZ (k:=dg.length) G9).atoms) rfl aS (by rw[Y.2.2];omega) λ_ _ _ _ _ h r=>?_
    |refine Fi h cj (h.c0 (.head _)) (λ_ _ h r=>?_)
    |refine Cy rfl (by repeat first|exact trivial|apply kC.eY|refine kC.oO (.inr ⟨_,rfl,λ_ _ h=>(by cases h)⟩) (by decide+kernel) ?_) ?_
  refine yA (cu:=.ca _ 88 18 _ _:: .ca _ 132 13 _ _:: .ca _ 130 17 _ _::pS) h rfl ?_ jq a5;exact ⟨_,_,_,_,_,_,rfl,rfl,ai.app (OX DO jP),JM c3 c3,(al.mono .t).app (.one ⟨_,_,_,_,_,_,_,_,_,_,_,_,_,_,_,_,_,_,rfl,Q7.lZ,Bc.int hx,MP.int aI,⟨_,JM c3 c3,.inr ⟨132,.head _⟩⟩,eC zn (eC a0 rfl),Lj,h.c0 eB⟩)⟩;refine yA (cu:=.ca _ 88 18 _ _:: .ca _ 132 13 _ _:: .ca _ 130 17 _ _::pS) h rfl ?_ jq a5;refine ⟨_,_,_,_,_,_,rfl,rfl,?_,(JM c3 c3).app (OZ G9),(al.mono .t).app (.one ⟨_,_,_,_,_,_,_,_,_,_,_,_,_,_,_,_,_,_,rfl,Q7.lZ,Bc.int hx,MP.int aI,⟨_,(JM c3 c3).app (OZ G9),.inr ⟨132,.head _⟩⟩,eC zn (eC a0 rfl),Lj,h.c0 eB⟩)⟩;have:=(ai.app (OX DO jP)).app (XH ad9);rw[vl dg]at this;exact this) (by show s.n<=s.n;exact cg _)
end
section
theorem half{k:Int}(aR:0<=k)(aj:k<=3):((k:Rat) / ((2:Int):Rat)).num.natAbs<=3∧((k:Rat) / ((2:Int):Rat)).den<=2:=by
 rcases (show k=0∨k=1∨k=2∨k=3 by omega) with rfl|rfl|rfl|rfl<;>decide+kernel
theorem alH{k:Int}(aR:1<=k)(aj:k<=2):((k:Rat) / ((2:Int):Rat)).num.natAbs<=2∧((k:Rat) / ((2:Int):Rat)).den<=2:=by
 rcases (show k=1∨k=2 by omega) with rfl|rfl<;>decide+kernel
theorem fY.c0{α:Type}{z:Nat}{R:α->List V->Prop}{xs:List α}{v:V}(h:fY z R xs v):bL v=true:=let ⟨_,h,_⟩:=h;h.bL
def agZ(X:List b2)(dg:List qo)(ps:List gT)(gM j2 v:V)(cu:List b2):Prop:=
 ∃eZ eg cy cm jk jb aB aT aQ BK BL,v=.agg [eZ,eg,gM,j2]∧cu=.ca eg 88 18 (ps.length+2) jb:: .ca cm 132 13 1 aT:: .ca cy 132 13 1 aB:: .ca eZ 130 17 (dg.length+1) jk::X∧
  eX 17 ug (dg++ [aQ]) jk∧eX 13 wY BK.ek aB∧eX 13 wY BL.ek aT∧ky (.ca cm 132 13 1 aT:: .ca cy 132 13 1 aB::X) (ps++ [BK,BL]) jb∧BK.ok (dg.length+1)∧BL.ok (dg.length+1)
section
variable {a b c d e f g i i1 i2 i3 i4:V}{k:Nat}
theorem XJ(J:cH 1 ((1:Int):Rat) a b c d):eX 13 wY [Ce k] [.int .i64 k,a,b,c,d,.bool false,.af,.bool false,.af,.bool false,.af,.bool false,.af]:=
 .one ⟨_,_,_,_,_,_,_,_,_,_,_,_,rfl,L5 J,wK,wK⟩ rfl (acJ rfl (eC J rfl))
theorem XK{y:Rat}(J:db 2 2 y a b c d):eX 13 wY [⟨k,0,y,0⟩] [.int .i64 k,.bool false,.af,.bool false,.af,a,b,c,d,.bool false,.af,.bool false,.af]:=
 .one ⟨_,_,_,_,_,_,_,_,_,_,_,_,rfl,wK,J,wK⟩ rfl (TI (l:=[.int .i64 k]) J.hE rfl)
theorem XI{x:Rat}{p q:Int}(J:cH 1 x i1 i2 i3 i4)(U:cH 1 (p:Rat) a b c d)(aj:cH 1 (q:Rat) e f g i)(al:p.natAbs<=100)(a7:q.natAbs<=100):eX 17 ug [⟨true,(p:Rat),(q:Rat)⟩] [i1,i2,i3,i4,.bool false,.af,.bool false,.af,.bool true,a,b,c,d,e,f,g,i]:=
 .one ⟨_,_,_,_,_,_,_,_,_,_,_,_,_,_,_,_,rfl,eC J rfl,(U.int al).mono (cg _) aS,(aj.int a7).mono (cg _) aS⟩ rfl (j8 J.atoms (show ([.bool false,.af,.bool false,.af,.bool true,a,b,c,d,e,f,g,i]:List V).all atom=true from (by show ([a,b,c,d,e,f,g,i]:List V).all atom=true;exact eC U (eC aj rfl))))
end
attribute [local irreducible] jj bZ dp aF gZ cJ et c6 e9 eT aW aw cT bB e5 fD ef gv fl eV fe aV
theorem ae8{ao s:S}{L uc pS:List b2}{dg:List qo}{ps:List gT}{eZ eg gM j2:V}{jk jb:List V}{n:Int}(h:aX ao s L)(de:ji L (.ca eZ 130 17 dg.length jk) uc)(ej:ji uc (.ca eg 88 18 ps.length jb) pS)(a5:pS.all b2.u3=true)(tv:bL gM=true)(Qz:bL j2=true)
  (ai:eX 17 ug dg jk) (al:ky pS ps jb) (fF:dg.length<=8) (gF:ps.length<=8) (sm:0<=n) (gg:n<=100):
  pU ao (agZ pS dg ps gM j2) (a9 32 [.agg [eZ,eg,gM,j2],.int .i64 n] (X.aN s)):=
 (agk (cv aS)).uD 0 (by
  show aV _ (NW a9 0 (.agg [eZ,eg,gM,j2]) (.int .i64 n) (X.aN s));unfold NW;simp only[cw];have Z:=(h.bx de.mem).len;have h:=h.aN;have r:=h.bX;have Y:=Tm;have aY:=ns.hE;have bM:=half (k:=n % 3) D D;have bC:=ar @Z (ar @G7 @bT);repeat' first
   |refine cO ?_
   |refine cf h λ_ _ h r=>?_
   |refine eN h (q2 (p:=1) (q:=2)) λi1 i2 i3 i4 DO=>?_
   |refine eN h (ua (p:= -1)) λ_ _ _ _ jP=>?_
   |refine eN h (ua (p:=3)) λ_ _ _ _ DN=>?_
   |refine xi h (l:=[_,_,_,_,_,_,_,_,_,_,_,_,_,_,_,_,_]) rfl rfl λ_ _ _ h r=>?_
   |refine yy h (by repeat first|exact .here _ _|assumption|apply ji.there) (h.bx (.head _)) (dB (XI DO jP DN aS aS).atoms) rfl aS (by rw[Y.1];omega) λ_ _ _ _ _ h r=>?_
   |refine Fi h cj (h.c0 (.head _)) (λ_ _ h r=>?_)
   |refine Cy rfl (by repeat first|exact trivial|apply kC.eY|refine kC.oO (.inr ⟨_,rfl,λ_ _ h=>(by cases h)⟩) (by decide+kernel) ?_) ?_
   |refine g7 h (Nc (n:=1) ⟨aS,aS⟩) (λ_ ⟨acz,dR,d1,e,f1,f2,_⟩=>?_);subst e;have mm:=f1.c0
   |refine g7 h (Nc (n:=5) ⟨aS,aS⟩) (λ_ ⟨acA,dF,d2,e,dj,dL,_⟩=>?_);subst e;have yZ:=dj.c0
   |refine eN h (ua (p:=22)) λ_ _ _ _ Bc=>?_
   |refine eN h (ua (p:=1)) λ_ _ _ _ Tt=>?_
   |refine eN h (q2 (p:=n % 3) (q:=2)) λ_ _ _ _ zn=>?_
   |refine xi h (l:=[_,_,_,_,_,_,_,_,_,_,_,_,_]) rfl rfl λ_ _ _ h r=>?_;have iK:=h.c0 (.head _)
   |refine xi h (l:=[_,_,_,_,_,_,_,_,_,_,_,_,_,_,_,_,_,_]) rfl rfl λ_ _ _ h r=>?_
   |refine yy h (by repeat first|exact .here _ _|assumption|apply ji.there) (h.bx (.head _)) (Ma mm (h.c0 eB) Bc aY zn aY) rfl aS (by rw[Y.2.1];omega) λ_ _ _ _ _ h r=>?_
   |refine eN h (ua (p:=32)) λ_ _ _ _ aei=>?_
   |refine eN h (ua (p:=2)) λ_ _ _ _ aej=>?_
   |refine eN h (q2 (p:=1+n % 2) (q:=2)) λ_ _ _ _ aeg=>?_
   |refine eN h (q2 (p:=n % 4) (q:=2)) λ_ _ _ _ wr=>?_
   |refine yy h (by repeat first|exact .here _ _|assumption|apply ji.there) (h.bx (.head _)) (Ma yZ (h.c0 eB) aei aej wr zn) rfl aS (by rw[Y.2.1];omega) λ_ _ _ _ _ h r=>?_
   |refine c9 h cj (λ_ h r=>?_) (hx:=DD (h.c0 eB) (h.c0 eB) tv Qz)
  refine yA (cu:=.ca _ 88 18 _ _:: .ca _ 132 13 _ _:: .ca _ 132 13 _ _:: .ca _ 130 17 _ _::pS) h rfl ?_ jq a5;have zo:=alH (k:=1+n % 2) D D;have key:∀ {X:List b2} {jb c bj:List V} {P eR:gT},ky X ps jb->q5 X P c->q5 X eR bj->ky X (ps++ [P,eR]) (jb++c++bj):=λJ U aj=>by
   have:=(J.app (.one U)).app (.one aj);rw[vl ps]at this;exact this
  exact ⟨_,_,_,_,_,_,_,_,⟨true,((-1:Int):Rat),((3:Int):Rat)⟩,⟨acz,((22:Int):Rat),0,[Ce dg.length]⟩,⟨acA,((32:Int):Rat),((2:Int):Rat),[⟨dg.length,0,((1+n % 2:Int):Rat) / ((2:Int):Rat),0⟩]⟩,rfl,rfl,ai.app (XI DO jP DN aS aS),XJ Tt,XK ⟨aeg.1,zo⟩,
   key (al.mono .ME)
    ⟨_,_,_,_,_,_,_,_,_,_,_,_,_,_,_,_,_,_,rfl,f1.lZ,Bc.int aS,ns.mono aS aS,⟨_,XJ Tt,.inr ⟨132,.tail _ (.head _)⟩⟩,(eC (n:=1) (x:=(n % 3:Int) / ((2:Int):Rat)) c3 rfl),mm,h.c0 eB⟩
    ⟨_,_,_,_,_,_,_,_,_,_,_,_,_,_,_,_,_,_,rfl,dj.lZ,aei.int aS,aej.int aS,⟨_,XK ⟨aeg.1,zo⟩,.inr ⟨132,.head _⟩⟩,eC wr (eC zn rfl),yZ,h.c0 eB⟩,
   ⟨by have:=f2.dM;show 1<=acz.length;omega,f2.il,f2.b,by show 1<=3;omega,λc aa=>by rw[iu.1 aa];exact Nat.lt_succ_self _⟩,⟨by have:=dL.dM;show 1<=acA.length;omega,dL.il,dL.b,by show 1<=3;omega,λc aa=>by rw[iu.1 aa];exact Nat.lt_succ_self _⟩⟩) (by show s.n<=s.n;exact cg _)
end
section
def fh(A B:Nat)(x:Rat):Prop:=x.num.natAbs<=A∧x.den<=B
section
variable {A B fi B':Nat}{x y:Rat}
theorem fh.mono(h:fh A B x)(av:A<=fi)(Y:B<=B'):fh fi B' x:=⟨gb h.1 av,gb h.2 Y⟩
theorem mk_le(n:Int){d:Nat}(h:d≠0):(mkRat n d).num.natAbs<=n.natAbs∧(mkRat n d).den<=d:=by
 rw[Rat.num_mkRat,Rat.den_mkRat,if_neg h,if_neg h];exact ⟨Int.natAbs_ediv_le_natAbs _ _,sR _ _⟩
theorem fh.add(h:fh A B x)(h':fh fi B' y):fh (A*B'+fi*B) (B*B') (x+y):=by
 rw[Rat.add_def'];obtain ⟨J,U⟩:=mk_le (x.num*y.den+y.num*x.den) (Nat.mul_ne_zero x.den_nz y.den_nz);refine ⟨gb J (gb (Int.natAbs_add_le _ _) ?_),gb U (nA h.2 h'.2)⟩;rw[mC,mC];exact Nat.add_le_add (nA h.1 h'.2) (nA h'.1 h.2)
theorem fh.mul(h:fh A B x)(h':fh fi B' y):fh (A*fi) (B*B') (x*y):=by
 rw[Rat.mul_def'];obtain ⟨J,U⟩:=mk_le (x.num*y.num) (Nat.mul_ne_zero x.den_nz y.den_nz);refine ⟨gb J ?_,gb U (nA h.2 h'.2)⟩;rw[mC];exact nA h.1 h'.1
theorem fh.int{p:Int}(h:p.natAbs<=A):fh A 1 (p:Rat):=⟨by rw[Rat.num_intCast];exact h,by rw[Rat.den_intCast];exact cg _⟩
theorem acW{q:List Rat}{ek:List oD}(f:oD->Rat)(a7:∀x,x∈q->fh 3 3 x)(aa:∀c,c∈ek->fh 2 2 (f c))(aj:ek.length<=3):fh 648 216 (ek.foldl (λa c=>a+q.getD c.nG 0*f c) 0):=by
 have aY:fh 0 1 (0:Rat):=⟨cg _,cg _⟩;have al:∀c,c∈ek->fh 6 6 (q.getD c.nG 0*f c):=λc hm=>by
  refine fh.mul (A:=3) (B:=3) ?_ (aa c hm);rw[ir];cases h:q[c.nG]? with
  |none=>exact aY.mono aS aS
  |some x=>exact a7 x (hR h)
 match ek,aj,al with
 |[],_,_=>exact aY.mono aS aS
 |[a],_,al=>exact (aY.add (al a (by simp))).mono aS aS
 |[a,b],_,al=>exact ((aY.add (al a (by simp))).add (al b (by simp))).mono aS aS
 |[a,b,c],_,al=>exact (((aY.add (al a (by simp))).add (al b (by simp))).add (al c (by simp))).mono aS aS
 |_::_::_::_::_,aj,_=>simp at aj
end
theorem eX.mem{α:Type}{z:Nat}{R:α->List V->Prop}{xs:List α}{cs:List V}(h:eX z R xs cs):∀x,x∈xs-> ∃c,R x c:=by
 induction h with
 |nil=>exact λ_ h=>by cases h
 |cons x c xs cs h _ _ _ a3=>exact λy aI=>(hc.1 aI).elim (λe=>e ▸ ⟨c,h⟩) (a3 y)
theorem fY.mem{α:Type}{z:Nat}{R:α->List V->Prop}{xs:List α}{v:V}(h:fY z R xs v):∀x,x∈xs-> ∃c,R x c:=let ⟨_,_,h⟩:=h;h.mem
def je.fh(A B:Nat)(b:je):Prop:=X.fh A B b.h9∧X.fh A B b.im∧X.fh A B b.hx∧X.fh A B b.aI
theorem ar1{m:kl}{t:oH}{v w:V}(hm:nD m v)(aO:wZ t w)(aE:m.ok){i:Nat}{P:gT}(cQ:m.parts[i]? =some P):(sK m t P).fh 1000000 1000:=by
 obtain ⟨dm,fg,fy,gH,ho⟩:=aE.parts P (hR cQ);obtain ⟨d,p,r',k',rfl,J,U,aj,aH⟩:=hm;obtain ⟨sF,zp,fx,rfl,t1,t2,t3⟩:=aO;obtain ⟨c,sp,fA,gC,gx,g4,gh,gQ,cD,jD,kq,fQ,bM,jB,hL,bb,bU,cP,c7,rfl,dj,dL,eH,e0,mK⟩:=U.mem P (hR cQ);have a7:∀x,x∈t.q->fh 3 3 x:=λx hx=>by
  obtain ⟨c,b1,cq,cV,dn,_,_,h⟩:=t1.mem x hx;exact h
 have aa:=λc (aa:c∈P.ek)=>e0.mem c aa;have hx:fh 648 216 (rL t.q P.ek):=acW oD.x a7 (λc hm=>by obtain ⟨_,_,_,_,_,_,_,_,_,_,_,_,_,_,h,_,_⟩:=aa c hm;exact h.2) gH;have aI:fh 648 216 (rM t.q P.ek):=acW oD.y a7 (λc hm=>by obtain ⟨_,_,_,_,_,_,_,_,_,_,_,_,_,_,_,h,_⟩:=aa c hm;exact h.2) gH;have Dt:fh 22248 216 (Sj m t P):=fh.add (A:=100) (B:=1) dL.2 hx;have wy:fh 22248 216 (Sk m t P):=fh.add (A:=100) (B:=1) eH.2 aI;have ig:0<(P.shape.map (·.1)).length:=by rw[qY];omega
 have mj:0<(P.shape.map (·.2)).length:=by rw[qY];omega
 have aB:∀z,z∈P.shape.map (·.1)->z.natAbs<=1000:=λz aY=>by
  obtain ⟨Q,hK,rfl⟩:=qn.1 aY;have:=fy Q hK;omega
 have aT:∀z,z∈P.shape.map (·.2)->z.natAbs<=1000:=λz aY=>by
  obtain ⟨Q,hK,rfl⟩:=qn.1 aY;have:=fy Q hK;omega
 have dR:=LV ig;have dF:=LV mj;exact ⟨(Dt.add (fh.int (aB _ dR.1))).mono aS aS,(wy.add (fh.int (aT _ dF.1))).mono aS aS,(Dt.add (fh.int (aB _ dR.2))).mono aS aS,(wy.add (fh.int (aT _ dF.2))).mono aS aS⟩
def OJ(b:je):hq:=((b.h9.num,b.h9.den),(b.im.num,b.im.den),(b.hx.num,b.hx.den),(b.aI.num,b.aI.den))
theorem pN.fh{n:Nat}{b:je}{cs:List V}(h:pN n b (.agg cs)):sW (OJ b) cs:=by
 obtain ⟨b1,cq,cV,dn,bb,bU,cP,c7,cy,cm,dc,dw,d1,d2,d3,d4,e,dj,dL,eH,e0⟩:=h;cases e;exact ⟨_,_,_,_,_,_,_,_,_,_,_,_,_,_,_,_,rfl,dj.1,dL.1,eH.1,e0.1⟩
theorem je.fh.er{b:je}(h:b.fh 1000000 1000):(OJ b).er 1000000:=by
 have key:∀x:Rat,X.fh 1000000 1000 x->q9 1000000 (x.num,x.den):=λx h=>⟨⟨x.den_pos,x.reduced⟩,h.1,gb h.2 aS⟩;exact ⟨key _ h.1,key _ h.2.1,key _ h.2.2.1,key _ h.2.2.2⟩
end
section
attribute [local irreducible] jj bZ dp aF gZ cJ et c6 e9 eT aW aw cT bB e5 fD ef gv fl eV fe aV
theorem T3{n:Int}(a5:n.natAbs<=1000000):cI 168 [.int .i64 n] (m3 (·=(n.natAbs:Int))):=⟨λs ae au=>
 (af1 (cv aS)).ee 0 (by
  show aV _ (NJ a9 0 (.int .i64 n) s);unfold NJ;simp only[cw];have h:=aX.nil ae au;have r:=h.bX;have bC:=ar @G7 (ar @bT @xK);repeat' first
   |refine cO ?_
   |exact dh h ae rfl ⟨_,rfl,D⟩) D,rfl⟩
theorem T2{a b:Int}(aR:0<=a)(J:a<=1000000000)(U:0<=b)(aj:b<=1000000000):cI 167 [.int .i64 a,.int .i64 b] (m3 λg=>0<=g∧g<=1000000000∧(0<a∨0<b->0<g)):=⟨λs ae au=>
 (af0 (cv aS)).ee 1000000002 (by
  show aV _ (NI a9 1000000002 (.int .i64 a) (.int .i64 b) s);unfold NI;simp only[cw];have h:=aX.nil ae au;have r:=h.bX;generalize eO:1000000002=F;repeat' first
   |refine iG ?_
   |refine hO (λk vs t=> ∃x y:Int,vs=[.int .i64 y,.int .i64 x]∧aX s t []∧0<=x∧x<=1000000000∧0<=y∧y<=k∧y<=1000000000∧(0<a∨0<b->0<x∨0<y)) 1000000000 ⟨a,b,rfl,h,D,D,D,D,D,id⟩ D ?_
  rintro a3 k _ t ⟨x,y,rfl,h,i1,i2,i3,i4,i5,i6⟩ cR;have r:=h.bX;by_cases aI:y=0
  ·repeat' first
    |refine iG ?_
    |exact dh h ae rfl ⟨_,rfl,D⟩
  ·have aC:=zv x (show 0<y by omega);have ba:=zw x aI;repeat' first
    |refine iG ?_
    |exact cR (y - 1).toNat _ _ D ⟨y,x % y,rfl,h,D,D,D,D,D,λ_=>D⟩) D,rfl⟩
theorem TT{x y z:Int}(hx:x.natAbs<=1000000)(aI:y.natAbs<=1000000):cI 126 [.agg [.int .i64 x,.int .i64 y,.int .i64 z]] (·=.agg [.int .i64 (-x),.int .i64 (-y),.int .i64 z]):=⟨λs ae au=>
 (afQ (cv aS)).ee 0 (by
  show aV _ (Ny a9 0 (.agg [.int .i64 x,.int .i64 y,.int .i64 z]) s);unfold Ny;simp only[cw];have h:=aX.nil ae au;have r:=h.bX;have bC:=ar @G7 (ar @bT @Int.zero_sub);repeat' first
   |refine cO ?_
   |refine cf h λ_ _ h r=>?_
   |refine c9 h cj (λ_ h r=>?_)
   |exact dh h ae rfl rfl) D,rfl⟩
def BN(c5:List (Int×Int)):Prop:= ∀x,x∈c5-> -1000<=x.1∧x.1<=1000∧ -1000<=x.2∧x.2<=1000
theorem TS{v:V}{c5:List (Int×Int)}(ad:fY 2 l7 c5 v)(al:BN c5)(Z:c5.length<=100){i:Nat}(hi:i<c5.length):cI 125 [v,.int .i64 i] (λr=> ∃P:Int×Int,(-1000<=P.1∧P.1<=1000∧ -1000<=P.2∧P.2<=1000)∧r=.agg [.int .i64 P.1,.int .i64 P.2]):=⟨λs ae au=>
 (afP (cv aS)).ee 0 (by
  show aV _ (Nx a9 0 v (.int .i64 i) s);unfold Nx;simp only[cw];have h:=aX.nil ae au;have r:=h.bX;have hlen:=ad.len;by_cases a5:i+1<c5.length
  ·obtain ⟨P,c,lC,de,rfl,_,_,dy⟩:=ad.c1 (i:=(i:Int)+1) D D;have dy:=dy .i64;have Y:=al P (hR de);have bC:=ar @hlen (ar @dy (ar @hJ @bT));repeat' first
    |refine cO ?_
    |refine cf h λ_ _ h r=>?_
    |refine c9 h cj (λ_ h r=>?_)
    |exact dh h ae rfl ⟨P,Y,rfl⟩
  ·obtain ⟨P,c,lC,de,rfl,_,_,dy⟩:=ad.c1 (i:=0) D D;have dy:=dy .i64;have Y:=al P (hR de);have bC:=ar @hlen (ar @dy (ar @hJ @bT));repeat' first
    |refine cO ?_
    |refine cf h λ_ _ h r=>?_
    |refine c9 h cj (λ_ h r=>?_)
    |exact dh h ae rfl ⟨P,Y,rfl⟩) D,by simp[ad.A];rfl⟩
theorem Dg{x y:Int}{a b:Nat}(hx:x.natAbs<=a)(aI:y.natAbs<=b):(x*y).natAbs<=a*b:=by rw[mC];exact nA hx aI
theorem TU{v:V}{c5:List (Int×Int)}(ad:fY 2 l7 c5 v)(al:BN c5)(aR:0<c5.length)(Z:c5.length<=100){x y z:Int}(hx:x.natAbs<=100000)(aI:y.natAbs<=100000):cI 127 [v,.agg [.int .i64 x,.int .i64 y,.int .i64 z]] (m3 λk=>k.natAbs<=200000000):=⟨λs ae au=>
 (afR (cv aS)).ee 102 (by
  show aV _ (Nz a9 102 v (.agg [.int .i64 x,.int .i64 y,.int .i64 z]) s);unfold Nz;simp only[cw];have h:=aX.nil ae au;have r:=h.bX;generalize eO:102=F;have hlen:=ad.len;have key:∀P:Int×Int,P∈c5->(x*P.1).natAbs<=100000*1000∧(y*P.2).natAbs<=100000*1000:=λP cQ=>by
   have:=al P cQ;exact ⟨Dg hx D,Dg aI D⟩
  obtain ⟨P,c,lC,de,rfl,_,_,dy⟩:=ad.c1 (i:=0) D D;have dy:=dy .i64;have Y:=key P (hR de);generalize nN:x*P.1=e1 at*;generalize tr:y*P.2=ei at*;have bC:=ar @dy (ar @hJ (ar @bT (ar @nN @tr)));repeat' first
   |refine cO ?_
   |refine cf h λ_ _ h r=>?_
   |refine hO (λk vs t=> ∃(j:Nat) (m:Int) (b:Nat),vs=[.int .i64 j,.ptr b 0,v,.int .i64 m]∧aX s t [.cM b [.int .i64 x,.int .i64 y,.int .i64 z] 94]∧m.natAbs<=200000000∧j+k=c5.length) c5.length ⟨0,_,_,rfl,h,D,D⟩ D ?_
  rintro a3 k _ t ⟨j,m,b,rfl,h,hm,mN⟩ cR;have r:=h.bX;by_cases aG:j<c5.length
  ·obtain ⟨P,c,lC,de,rfl,_,_,dy⟩:=ad.c1 (i:=(j:Int)) D D;have dy:=dy .i64;have Y:=key P (hR de);generalize nN:x*P.1=e1 at*;generalize tr:y*P.2=ei at*;have bC:=ar @hlen (ar @dy (ar @hJ (ar @bT (ar @nN (ar @tr @xK)))));repeat' first
    |refine cO ?_
    |exact cR (k - 1) _ _ D ⟨j+1,_,_,rfl,h,D,D⟩
  ·have bC:= @hlen;repeat' first
    |refine cO ?_
    |exact dh h ae rfl ⟨_,rfl,hm⟩) D,by simp[ad.A];rfl⟩
end
section
attribute [local irreducible] jj bZ dp aF gZ cJ et c6 e9 eT aW aw cT bB e5 fD ef gv fl eV fe aV
section
variable {x y:Int}{a b c d:V}
theorem Eb(hx:ez x):cI 67 [.int .i64 x] (nC λe f=>bN x (.agg [e,f])):=oq (yn x hx) rfl λ_ ⟨d,e,h⟩=>⟨_,_,e,d,e ▸ rfl,h⟩
theorem Ui(h:bN x (.agg [a,b]))(h':bN y (.agg [c,d]))(a5:(aL x.natAbs).length<=100000000)(hm:(aL y.natAbs).length<=100000000):cI 70 [.agg [a,b],.agg [c,d]] (nC λe f=>bN (x+y) (.agg [e,f])):=
 oq (OS h h' a5 hm) (df h.A h'.A) λ_ ad=>let ⟨d,e,h⟩:=ad;⟨_,_,e,d,e ▸ rfl,h⟩
theorem D5(h:bN x (.agg [a,b]))(h':bN y (.agg [c,d]))(a5:(aL x.natAbs).length<=1000000000)(hm:(aL y.natAbs).length<=1000000000):cI 128 [.agg [a,b],.agg [c,d]] (m3 (·=e8 x y)):=pC (OO h h' a5 hm) (df h.A h'.A) ⟨_,rfl,rfl⟩
theorem aez(h:bN x (.agg [a,b]))(h':bN y (.agg [c,d]))(aI:y≠0)(a5:(aL x.natAbs).length<=1000000)(hm:(aL y.natAbs).length<=1000000):cI 113 [.agg [a,b],.agg [c,d]] (Jj (λa b=>bN (x / y) (.agg [a,b])) λa b=>bN (x % y) (.agg [a,b])):=
 oq (JC h h' aI a5 hm) (df h.A h'.A) λ_ ⟨_,_,e,⟨d,aC,J⟩,⟨bK,ba,U⟩⟩=>⟨_,_,_,_,by rw[e,aC,ba],⟨d,rfl,J⟩,⟨bK,rfl,U⟩⟩
theorem aeB{l:List Int}{v:V}(ad:bV .i64 v l)(ai:ea l)(Z:l.length<=1000000000):cI 116 ([.bool false]++v:: []) (nC λe f=>bN (a0 l) (.agg [e,f])):=
 oq (rb false ad ai Z) (df rfl ad.a2) λ_ ⟨d,e,h⟩=>⟨_,_,e,d,e ▸ rfl,h⟩
def ag2(P:Int->Prop)(v:V):Prop:= ∃k b,v=.da [.int .i64 k,.bool b]∧P k
theorem u2{x:Int}(h:x.natAbs<1000000000000000000):(aL x.natAbs).length<=2:=nm h
theorem aeP(J:bN x (.agg [a,b]))(aR:0<=x)(hx:x<1000000000):cI 166 [.agg [a,b]] (ag2 (·=x)):=⟨λs ae au=>
 (afZ (cv aS)).ee 3 (by
  show aV _ (NH a9 3 (.agg [a,b]) s);unfold NH;simp only[cw];have h:=aX.nil ae au;have r:=h.bX;have cy:=Eb (x:=9223372036854775807) (by unfold ez;omega);have cm:=Eb (x:= -9223372036854775808) (by unfold ez;omega);have bk:=u2 (x:=x) D;have gW:=J.c0;have d1:decide (0<e8 x 9223372036854775807)=false:=e3 λh=>by have:=(GV _ _).1 h;omega
  have d2:decide (e8 x (-9223372036854775808)<0)=false:=e3 λh=>by have:=(GW _ _).1 h;omega
  have aB:=λ{c d:V} (h:bN 9223372036854775807 (.agg [c,d]))=>D5 J h D (gb (nm (n:=3) aS) aS);have aT:=λ{c d:V} (h:bN (-9223372036854775808) (.agg [c,d]))=>D5 J h D (gb (nm (n:=3) aS) aS);obtain ⟨rfl,ai⟩:=J.cs;rw[show decide (x<0)=false from e3 D]at*;have Ao:=iZ (x:=x.natAbs) D;have ad:=gq x.natAbs;generalize aL x.natAbs=l at*;have hlen:=ai.len
  match l,Ao,ad,ai,hlen with
  |[],_,ad,ai,hlen=>
   have lv:x=0:=by simp[a0]at ad;omega
   have hlen:fP b=some (.int .i64 0):=hlen;have bC:=ar @hlen (ar @bT (ar @d1 @d2));repeat' first
    |refine cO ?_
    |refine cf h λ_ _ h r=>?_
    |refine Ct ?_
    |refine ka h cy λ_ _ u=>?_
    |refine ka h cm λ_ _ u=>?_
    |refine gr h (aB c3) λ_ e=>?_;subst e
    |refine gr h (aT c3) λ_ e=>?_;subst e
    |exact nJ h ae rfl rfl ⟨_,_,rfl,lv.symm⟩
  |[u],_,ad,ai,hlen=>
   have lv:u=x:=by simp[a0]at ad;omega
   subst lv;have hlen:fP b=some (.int .i64 1):=hlen;have hl:dW 1 b (.int .i64 0)=some (.fu [.int .i64 u]):=ai.c1 .i64 (i:=0) D (by simp);have bC:=ar @hlen (ar @bT (ar @d1 (ar @d2 (ar @hl (ar @hJ (show (1:Int) - 1=0 from rfl))))));repeat' first
    |refine cO ?_
    |refine cf h λ_ _ h r=>?_
    |refine Ct ?_
    |refine ka h cy λ_ _ u=>?_
    |refine ka h cm λ_ _ u=>?_
    |refine gr h (aB c3) λ_ e=>?_;subst e
    |refine gr h (aT c3) λ_ e=>?_;subst e
    |exact nJ h ae rfl rfl ⟨_,_,rfl,D⟩
  |_::_::_,Ao,_,_,_=>simp at Ao) D,fJ J.A⟩
def ag6(P:Int->Prop)(v:V):Prop:= ∃a b q r,v=.da [.agg [a,b],.bool q]∧bN r (.agg [a,b])∧P r
theorem aeO(J:bN x (.agg [a,b]))(aR:0<=x)(hx:x<1000000000):cI 165 [.agg [a,b]] (ag6 λr=>0<=r∧r<1000000000):=⟨λs ae au=>
 (afY (cv aS)).ee 1000000002 (by
  show aV _ (NG a9 1000000002 (.agg [a,b]) s);unfold NG;simp only[cw];have h:=aX.nil ae au;have r:=h.bX;generalize eO:1000000002=F;have gW:=J.c0;have iT:=J;obtain ⟨rfl,ai⟩:=J.cs;rw[show decide (x<0)=false from e3 D]at*;have Ao:=iZ (x:=x.natAbs) D;have hlen:=ai.len;have h9:=u2 (x:=x) D;have cy:=Eb (x:=1) (by unfold ez;omega);have cm:=Eb (x:=2) (by unfold ez;omega);have n5:g3.bytes=8:=rfl;have DT:bN 0 (.agg [.bool false,.af]):=⟨.af,rfl,by rw[show (0:Int).natAbs=0 from rfl,jm];exact bV.nil _⟩;have bC:=ar @hlen @bT;repeat' first
   |refine cO ?_
   |refine cf h λ_ _ h r=>?_
   |refine c9 h cj (λ_ h r=>?_)
   |refine Ff h xZ.1 xZ.2.1 xZ.2.2 D (by rw[n5];omega) D (z:=1) rfl rfl λout s1 h r=>?_;rw[show (((aL x.natAbs).length:Int) / 2+1).toNat=1 by omega]at h
   |refine oT h (l:=[.int .i64 1]) rfl rfl λ_ _ h r=>?_
   |refine vN h hG (h.bx (.head _)) rfl rfl aS (by rw[n5];omega) λ_ _ h r=>?_
   |refine YA [.bool false] [] h (.here _ _) rfl rfl rfl (λx' h3=>aeB (l:=[0,1]) h3 (by intro y aI;simp at aI;omega) aS) (λ_ _ ⟨_,_,e,dy⟩ h r=>?_);subst e;have arh:=dy.c0
   |refine c9 h cj (λ_ h r=>?_) (hx:=arh)
   |refine ka h cy λ_ _ de=>?_;have are:=de.c0
   |refine c9 h cj (λ_ h r=>?_) (hx:=are)
   |refine ka h cm λ_ _ ej=>?_;have arf:=ej.c0
   |refine c9 h cj (λ_ h r=>?_) (hx:=arf)
   |refine hO (λk vs t=> ∃(lo hi:Int) (bb bU cP c7 iw oM:Nat) (bk cn J U dm fg t1 t2:V),vs=[.ptr bb 0,.ptr bU 0,.ptr cP 0,.ptr c7 0,.ptr iw 0,.ptr oM 0]∧aX s t [.cM bU [t1,t2] 43,.cM bb [dm,fg] 43,.cM cP [J,U] 43,.cM c7 [bk,cn] 43,.cM oM [.bool false,.af] 43,.cM iw [.bool false,b] 43]∧
     bN 1 (.agg [dm,fg])∧bN 2 (.agg [t1,t2])∧bN lo (.agg [bk,cn])∧bN hi (.agg [J,U])∧0<=lo∧lo<hi∧hi<=1000000000∧hi<=lo+k) 1000000000 ⟨0,1000000000,_,_,_,_,_,_,_,_,_,_,_,_,_,_,rfl,h.sub jq,de,ej,DT,dy,D,D,D,D⟩ D ?_
  rintro a3 k _ t ⟨lo,hi,bb,bU,cP,c7,iw,oM,bk,cn,dj,dL,dm,fg,t1,t2,rfl,h,v1,v2,jP,DN,i1,i2,i3,i4⟩ cR;have r:=h.bX;have ed:=u2 (x:=1) aS;have gu:=u2 (x:=2) aS;have nl:=u2 (x:=lo) D;have avx:=u2 (x:=hi) D;have avy:=u2 (x:=lo+1) D;have aB:=Ui jP v1 D D;have aT:=λ{c d:V} (u:bN (lo+1) (.agg [c,d]))=>D5 u DN D D;by_cases b6:lo+1<hi
  ·have mm:=(GW (lo+1) hi).2 b6;obtain ⟨mid,CR⟩:∃mid,(lo+hi) / 2=mid:=⟨_,rfl⟩;have dR:lo<mid:=D;have dF:mid<hi:=D;have avz:=u2 (x:=lo+hi) D;have bp:=Ui jP DN D D;have eh:=λ{c d:V} (u:bN (lo+hi) (.agg [c,d]))=>aez u v2 aS D D;rw[CR]at eh;have avA:=u2 (x:=mid) D;have eo:=λ{c d:V} (u:bN mid (.agg [c,d]))=>Hv u u D D;have pq:(mid*mid).natAbs<=999999999*999999999:=Dg D D;have apv:=u2 (x:=mid*mid) D;have g2:=λ{c d:V} (u:bN (mid*mid) (.agg [c,d]))=>D5 u iT D D;by_cases hm:mid*mid<=x
   ·have yZ:e8 (mid*mid) x<=0:=Int.not_lt.1 λh=>by have:=(GV _ _).1 h;omega
    have bC:= @bT;repeat' first
     |refine cO ?_
     |refine mL h λ_ _ _ h r=>?_
     |refine ka h aB λ_ _ fV=>?_
     |refine gr h (aT c3) λ_ e=>?_;subst e
     |refine iH h bp λ_ _ fH=>?_
     |refine lq h (eh c3) (λ_ ⟨_,_,_,_,e,fa,gY⟩=>?_);subst e;have fB:=fa.c0;have hF:=gY.c0
     |refine fN h cj (λ_ _ h r=>?_) (hx:=fB)
     |refine fN h cj (λ_ _ h r=>?_) (hx:=hF)
     |refine pj ?_
     |refine ka h (eo fa) λ_ _ vf=>?_
     |refine gr h (g2 c3) λ_ e=>?_;subst e
     |refine c9 h cj (λ_ h r=>?_) (hx:=fB)
     |exact cR (k - 1) _ _ D ⟨mid,hi,_,_,_,_,_,_,_,_,_,_,_,_,_,_,rfl,h.sub jq,v1,v2,fa,DN,D,D,D,D⟩
   ·have yZ: ¬e8 (mid*mid) x<=0:=λh=>by have:=(GV (mid*mid) x).2 D;omega
    have bC:= @bT;repeat' first
     |refine cO ?_
     |refine mL h λ_ _ _ h r=>?_
     |refine ka h aB λ_ _ fV=>?_
     |refine gr h (aT c3) λ_ e=>?_;subst e
     |refine iH h bp λ_ _ fH=>?_
     |refine lq h (eh c3) (λ_ ⟨_,_,_,_,e,fa,gY⟩=>?_);subst e;have fB:=fa.c0;have hF:=gY.c0
     |refine fN h cj (λ_ _ h r=>?_) (hx:=fB)
     |refine fN h cj (λ_ _ h r=>?_) (hx:=hF)
     |refine pj ?_
     |refine ka h (eo fa) λ_ _ vf=>?_
     |refine gr h (g2 c3) λ_ e=>?_;subst e
     |refine c9 h cj (λ_ h r=>?_) (hx:=fB)
     |exact cR (k - 1) _ _ D ⟨lo,mid,_,_,_,_,_,_,_,_,_,_,_,_,_,_,rfl,h.sub jq,v1,v2,jP,fa,D,D,D,D⟩
  ·have mm: ¬e8 (lo+1) hi<0:=λh=>b6 ((GW _ _).1 h);have pq:(lo*lo).natAbs<=999999999*999999999:=Dg D D;have apv:=u2 (x:=lo*lo) D;have eo:=Hv jP jP D D;have g2:=λ{c d:V} (u:bN (lo*lo) (.agg [c,d]))=>D5 u iT D D;have bx:=jP.c0;have bC:= @bT;repeat' first
    |refine cO ?_
    |refine ka h aB λ_ _ fV=>?_
    |refine gr h (aT c3) λ_ e=>?_;subst e
    |refine iH h eo λ_ _ fH=>?_
    |refine akv h (g2 c3) λ_ e=>?_;subst e
    |refine fN h cj (λ_ _ h r=>?_) (hx:=bx)
    |refine pj ?_
    |exact nJ h ae jP.A rfl ⟨_,_,_,lo,rfl,jP,D,D⟩) D,fJ J.A⟩
end
end
section
attribute [local irreducible] jj bZ dp aF gZ cJ et c6 e9 eT aW aw cT bB e5 fD ef gv fl eV fe aV
def Nn(d:Int×Int×Int):Prop:=d.1.natAbs<=2000∧d.2.1.natAbs<=2000∧d.2.2.natAbs<1000000000
def Ji(P:Int×Int):Prop:= -1000<=P.1∧P.1<=1000∧ -1000<=P.2∧P.2<=1000
def Ov(v:V):Prop:= ∃(d:Int×Int×Int) (b:Bool),v=.da [.agg [.int .i64 d.1,.int .i64 d.2.1,.int .i64 d.2.2],.bool b]∧Nn d
theorem TR{P Q:Int×Int}(cQ:Ji P)(hK:Ji Q):cI 124 [.agg [.int .i64 P.1,.int .i64 P.2],.agg [.int .i64 Q.1,.int .i64 Q.2]] Ov:=⟨λs ae au=>
 (afO (cv aS)).ee 0 (by
  show aV _ (Nw a9 0 (.agg [.int .i64 P.1,.int .i64 P.2]) (.agg [.int .i64 Q.1,.int .i64 Q.2]) s);unfold Nw;simp only[cw];have h:=aX.nil ae au;have r:=h.bX;obtain ⟨a,b⟩:=P;obtain ⟨c,d⟩:=Q;obtain ⟨i1,i2,i3,i4⟩:=cQ;obtain ⟨e6,fo,g9,h4⟩:=hK;simp only[]at*;obtain ⟨x,hx⟩:∃x,c - a=x:=⟨_,rfl⟩;obtain ⟨y,aI⟩:∃y,d - b=y:=⟨_,rfl⟩;have cM:x.natAbs<=2000:=D;have B0:y.natAbs<=2000:=D;obtain ⟨p,al⟩:∃p,x*x=p:=⟨_,rfl⟩;obtain ⟨q,a7⟩:∃q,y*y=q:=⟨_,rfl⟩;have oo:0<=p:=by rw[<-al,<-Int.natAbs_mul_self'];exact wQ (Hq _) (Hq _)
  have GG:0<=q:=by rw[<-a7,<-Int.natAbs_mul_self'];exact wQ (Hq _) (Hq _)
  have e1:p.natAbs<=2000*2000:=by rw[<-al];exact Dg cM cM
  have cL:q.natAbs<=2000*2000:=by rw[<-a7];exact Dg B0 B0
  have aB:=Eb (x:=p+q) (by unfold ez;omega);have aT:=λ{a b:V} (u:bN (p+q) (.agg [a,b]))=>aeO u D D;have bp:=T3 (n:=x) D;have eh:=T3 (n:=y) D;have eo:=T2 (a:=(x.natAbs:Int)) (b:=(y.natAbs:Int)) D D D D;have bC:=ar @bT (ar @hx (ar @aI (ar @al (ar @a7 (ar @nv (ar @lg (ar @j6 (ar @G7 @Mg))))))));repeat' first
   |refine cO ?_
   |refine cf h λ_ _ h r=>?_
   |refine ka h aB λ_ _ u=>?_
   |refine g7 h (aT u) (λ_ ⟨_,_,xT,m,e,w,hQ,dR⟩=>?_);subst e;have ar5:=w.c0;have g2:=aeP w hQ dR;cases xT<;>(by_cases hm:m=0)
   |refine c9 h cj (λ_ h r=>?_) (hx:=ar5)
   |refine g7 h g2 (λ_ ⟨_,_,e,aZ⟩=>?_);subst e;rw[aZ]
   |refine gr h bp (λ_ e=>?_);subst e
   |refine gr h eh (λ_ e=>?_);subst e
   |refine gr h eo (λg ⟨kH,dj,_⟩=>?_);have jy:=T2 (a:=g) (b:=m) kH dj hQ D
   |refine gr h jy (λg ⟨kH,dj,dL⟩=>?_);have au:0<g:=dL D;have t1:=TO y g;have t2:=TO (0 - x) g;have t3:=TO m g;have t4:=Int.natAbs_ediv_le_natAbs m g
   |refine c9 h cj (λ_ h r=>?_)
   |exact nJ h ae rfl rfl ⟨(0,0,0),_,rfl,aS,aS,aS⟩
   |exact nJ h ae rfl rfl ⟨(_,_,_),_,rfl,gb t1 B0,gb t2 D,by first|exact Nat.lt_of_le_of_lt t4 D|exact Nat.lt_of_le_of_lt t3 D⟩) D,rfl⟩
def Ow(d:Int×Int×Int×Int)(cs:List V):Prop:=cs=[.int .i64 d.1,.int .i64 d.2.1,.int .i64 d.2.2.1,.int .i64 d.2.2.2]
def Nq(d:Int×Int×Int×Int):Prop:=d.1.natAbs<1000000000∧d.2.1.natAbs<1000000000∧d.2.2.1.natAbs<1000000000∧d.2.2.2.natAbs<1000000000
theorem afn{v:V}{es:List (Int×Int×Int×Int)}(ad:fY 4 Ow es v)(he:∀e,e∈es->Nq e)(Z:es.length<=100){n:Nat}{x y:Rat}{a b c d a8 a4 bj bK:V}(J:cH n x a b c d)(U:cH n y a8 a4 bj bK)(a5:n<=10000:=by omega):
  cI 76 ([]++v:: [.agg [a,b,c,d,a8,a4,bj,bK]]) (lj λ_=>True):=⟨λs ae au=>
 (agF (cv aS)).ee 102 (by
  show aV _ (Od a9 102 v (.agg [a,b,c,d,a8,a4,bj,bK]) s);unfold Od;simp only[cw];have h:=aX.nil ae au;have r:=h.bX;generalize eO:102=F;have hlen:=ad.len;repeat' first
   |refine iG ?_
   |refine cf h λ_ _ h r=>?_
   |refine hO (λk vs t=> ∃(j p:Nat),vs=[.int .i64 j,v,.ptr p 0]∧aX s t [.cM p [a,b,c,d,a8,a4,bj,bK] 47]∧j+k=es.length) es.length ⟨0,_,rfl,h,D⟩ D ?_
  rintro a3 k _ t ⟨j,p,rfl,h,mN⟩ cR;have r:=h.bX;by_cases aG:j<es.length
  ·obtain ⟨cB,jS,lC,de,rfl,_,_,dy⟩:=ad.c1 (i:=(j:Int)) D D;have dy:=dy .i64;obtain ⟨aC,ba,cd,ff⟩:=he cB (hR de);have aB:=aeD aC ba cd ff J U;have bC:=ar @hlen (ar @dy (ar @hJ @bT));repeat' first
    |refine cO ?_
    |refine lp h aB λ_ _ _ _ ⟨z,w⟩=>?_;have aT:=Ng w;by_cases aY:0<=gN z 0
    |refine gr h aT λ_ e=>?_;subst e
    |exact dh h ae rfl ⟨_,rfl,trivial⟩
    |exact cR (k - 1) _ _ D ⟨j+1,_,rfl,h,D⟩
  ·have bC:= @hlen;repeat' first
    |refine cO ?_
    |exact dh h ae rfl ⟨_,rfl,trivial⟩) D,df ad.A (eC J (eC U rfl))⟩
end
section
theorem aX.own{α:Type}{ao s:S}{L:List b2}{z e l:Nat}{R:α->List V->Prop}{xs:List α}{v:V}{c:List V}(h:aX ao s L)(u:b2.ca v e z l c∈L)(Z:xs.length=l)(aa:eX z R xs c){i:Nat}(hi:i<l):
  ∃b x jS,(∀k,dW z v (.int k i)=some (.ptr b (i*z)))∧xs[i]? =some x∧R x jS∧jS.length=z∧jS.all X.atom=true∧bf z s (.ptr b (i*z))=some (.agg jS)∧(z=1->cZ s (.ptr b (i*z))=some (jS.getD 0 .bad)):=by
 subst Z;obtain ⟨b,bw,rfl,Y⟩:=(show cl ao s e z v xs.length c from h.ok _ u).qG D;obtain ⟨x,jS,r,U,aj,aH,bD,cF⟩:=aa.at hi;have hm:i*z+z<=c.length:=by rw[aa.len,<-wN];exact x6 _ hi
 refine ⟨b,x,jS,λk=>?_,U,aj,aH,bD,?_,λaY=>?_⟩;have:=px (b:=b) (o:=0) (l:=xs.length) (c:=xs.length) (mW:=z) (z:=z) k (i:=(i:Int)) D D
 rwa [gD,dZ]at this
 rw[kN Y.rd hm,cF,List.take_left' aH];subst aY;rw[nk Y.rd D];have:c.getD (i*1) .bad=(c.drop (i*1)).getD 0 .bad:=by simp[ir]
 rw[this,cF];simp[ir,vi (show 0<jS.length by omega)]
theorem apj(a b c d e f:Int):∃q,bH .neq (aJ.get types 94) (.agg [.int .i64 a,.int .i64 b,.int .i64 c]) (.agg [.int .i64 d,.int .i64 e,.int .i64 f])=some (.bool q):=⟨_,rfl⟩
theorem zH{α:Type}{P:α->Prop}{xs:List α}{x:α}(h:∀y,y∈xs->P y)(hx:P x):∀y,y∈xs++ [x]->P y:=λy aI=>(mB.1 aI).elim (h y) λh=>by rw[iu.1 h];exact hx
theorem asu:MF.bytes=24∧Tj.bytes=32:=⟨rfl,rfl⟩
theorem Ov.d{v:V}(h:Ov v):∃(x y z:Int) (b:Bool),v=.da [.agg [.int .i64 x,.int .i64 y,.int .i64 z],.bool b]∧x.natAbs<=2000∧y.natAbs<=2000∧z.natAbs<1000000000:=let ⟨d,b,J,U⟩:=h;⟨_,_,_,b,J,U⟩
attribute [local irreducible] jj bZ dp aF gZ cJ et c6 e9 eT aW aw cT bB e5 fD ef gv fl eV fe aV
theorem afo{vd a0:V}{xR nr:List (Int×Int)}(av:fY 2 l7 xR vd)(Y:fY 2 l7 nr a0)(nc:BN xR)(QS:BN nr)(fC:0<xR.length)(oK:0<nr.length)(Jq:xR.length<=8)(W8:nr.length<=8):
  wV 77 [vd,a0] 190 4 (λl cs=> ∃es:List (Int×Int×Int×Int),es.length=l∧eX 4 Ow es cs∧l<=16∧ ∀e,e∈es->Nq e):=⟨λs ae au=>
 (agG (cv aS)).Kb 1001 (by
  show aV _ (Oe a9 1001 vd a0 s);unfold Oe;simp only[cw];have h:=aX.nil ae au;have r:=h.bX;generalize eO:1001=F;have uP:=av.len;have p5:=Y.len;obtain ⟨gh,gQ⟩:=asu;repeat' first
   |refine iG ?_
   |refine hO (λk vs t=> ∃(j:Nat) (dg:List (Int×Int×Int)) (eZ:V) (c:List V) (l:Nat),vs=[.int .i64 j,vd,a0,eZ]∧aX s t [.ca eZ 94 3 l c]∧dg.length=l∧eX 3 Em dg c∧(∀d,d∈dg->Nn d)∧l=j∧j+k=xR.length) xR.length ⟨0,[],.af,[],0,rfl,h.xU 94 3,rfl,.nil,(λ_ h=>by cases h),rfl,D⟩ D ?_
  rintro a3 k _ t ⟨j,dg,eZ,c,l,rfl,h,fF,aa,Ab,K0,mN⟩ cR;have r:=h.bX;by_cases aG:j<xR.length
  ·obtain ⟨P,jS,lC,de,rfl,_,_,dy⟩:=av.c1 (i:=(j:Int)) D D;have dy:=dy .i64;have cQ:=nc P (hR de);have aB:=TS av nc D aG;have aT:=λ{Q:Int×Int} (hK:Ji Q)=>TR cQ hK;have bC:=ar @uP (ar @dy (ar @hJ @bT));repeat' first
    |refine cO ?_
    |refine mL h λ_ _ _ h r=>?_
    |refine lq h aB (λ_ ⟨Q,hK,e⟩=>?_);subst e
    |refine lq h (aT c3) (λ_ ai=>?_);obtain ⟨x,y,z,_,e,bb,bU,cP⟩:=ai.d;subst e
    |refine fN h cj (λ_ _ h r=>?_)
    |refine pj ?_
    |refine oT h (l:=[_,_,_]) rfl rfl λ_ _ h r=>?_
    |refine vN h hG (h.bx (.head _)) rfl rfl aS (by rw[gh];omega) λ_ _ h r=>?_
    |exact cR (k - 1) _ _ D ⟨j+1,dg++ [(x,y,z)],_,_,l+1,rfl,h.sub jq,by simp[fF],aa.app (.one rfl rfl rfl),zH Ab ⟨bb,bU,cP⟩,D,D⟩
  have po:j=xR.length:=D;subst K0;subst po;clear cR aG;have bC:= @uP;repeat' first
   |refine cO ?_
   |refine hO (λk vs t=> ∃(j:Nat) (dg:List (Int×Int×Int)) (eZ:V) (c:List V) (l:Nat),vs=[.int .i64 j,vd,a0,eZ]∧aX s t [.ca eZ 94 3 l c]∧dg.length=l∧eX 3 Em dg c∧(∀d,d∈dg->Nn d)∧l=xR.length+j∧j+k=nr.length) nr.length ⟨0,dg,eZ,c,_,rfl,h,fF,aa,Ab,rfl,D⟩ D ?_
  rintro a3 k _ t ⟨j,dg,eZ,c,l,rfl,h,fF,aa,Ab,K0,mN⟩ cR;have r:=h.bX;by_cases aG:j<nr.length
  ·obtain ⟨P,jS,lC,de,rfl,_,_,dy⟩:=Y.c1 (i:=(j:Int)) D D;have dy:=dy .i64;have cQ:=QS P (hR de);have aB:=TS Y QS D aG;have aT:=λ{Q:Int×Int} (hK:Ji Q)=>TR cQ hK;have bC:=ar @p5 (ar @dy (ar @hJ @bT));repeat' first
    |refine cO ?_
    |refine mL h λ_ _ _ h r=>?_
    |refine lq h aB (λ_ ⟨Q,hK,e⟩=>?_);subst e
    |refine lq h (aT c3) (λ_ ai=>?_);obtain ⟨x,y,z,_,e,bb,bU,cP⟩:=ai.d;subst e;have bp:=TT (x:=x) (y:=y) (z:=z) D D
    |refine fN h cj (λ_ _ h r=>?_)
    |refine pj ?_
    |refine g7 h bp (λ_ e=>?_);subst e
    |refine oT h (l:=[_,_,_]) rfl rfl λ_ _ h r=>?_
    |refine vN h hG (h.bx (.head _)) rfl rfl aS (by rw[gh];omega) λ_ _ h r=>?_
    |exact cR (k - 1) _ _ D ⟨j+1,dg++ [(-x, -y,z)],_,_,l+1,rfl,h.sub jq,by simp[fF],aa.app (.one rfl rfl rfl),zH Ab ⟨by simp only[D1];exact bb,by simp only[D1];exact bU,cP⟩,D,D⟩
  have auG:l<=16:=D;clear cR K0;have kv:=(h.bx (.head _)).len;have bC:= @p5;repeat' first
   |refine cO ?_
   |refine hO (λk vs t=> ∃(j:Nat) (es:List (Int×Int×Int×Int)) (bl:V) (bj:List V) (l':Nat),vs=[.int .i64 j,vd,a0,eZ,bl]∧aX s t [.ca bl 190 4 l' bj,.ca eZ 94 3 l c]∧es.length=l'∧eX 4 Ow es bj∧(∀e,e∈es->Nq e)∧l'<=j∧j+k=l) l ⟨0,[],.af,[],0,rfl,h.xU 190 4,rfl,.nil,(λ_ h=>by cases h),D,D⟩ D ?_
  rintro a3 k _ t ⟨j,es,bl,bj,l',rfl,h,xv,lM,Qk,K0,mN⟩ cR;have r:=h.bX;by_cases po:j<l
  ·obtain ⟨er,aQ,Cb,fV,fH,rfl,_,_,fa,_⟩:=h.own (.tail _ (.head _)) fF aa po;have fV:=fV .i64;obtain ⟨d1,d2,d3⟩:=Ab aQ (hR fH);have bC:= @kv;repeat' first
    |refine cO ?_
    |refine hO (λk' vs t'=>t'=t∧ ∃(i:Nat) (f:Bool),vs=[.int .i64 i,.bool f,.int .i64 j,vd,a0,eZ,bl]∧i+k'=j) j ⟨rfl,0,true,rfl,D⟩ D ?_
   rintro xE k' _ _ ⟨rfl,i,f,rfl,na⟩ lO;have r:=h.bX;by_cases hi:i<j
   ·obtain ⟨atm,Nl,atv,v1,v2,rfl,_,_,hz,_⟩:=h.own (.tail _ (.head _)) fF aa (i:=i) D;have v1:=v1 .i64;obtain ⟨q,a7⟩:=apj Nl.1 Nl.2.1 Nl.2.2 aQ.1 aQ.2.1 aQ.2.2;cases f
    ·have bC:= @bT;repeat' first
      |refine cO ?_
      |exact lO (k' - 1) _ _ D ⟨rfl,i+1,_,rfl,D⟩
    ·have bC:=ar @bT (ar @v1 (ar @hz (ar @fV (ar @fa @a7))));repeat' first
      |refine cO ?_
      |exact lO (k' - 1) _ _ D ⟨rfl,i+1,_,rfl,D⟩
   ·have dR:=TU (z:=aQ.2.2) av nc fC D (x:=aQ.1) (y:=aQ.2.1) D D;have dF:=TT (x:=aQ.1) (y:=aQ.2.1) (z:=aQ.2.2) D D;have k6:=TU (z:=aQ.2.2) Y QS oK D (x:= -aQ.1) (y:= -aQ.2.1) D D;cases f
    ·have bC:= @bT;repeat' first
      |refine cO ?_
      |exact cR (k - 1) _ _ D ⟨j+1,es,_,_,l',rfl,h,xv,lM,Qk,D,D⟩
    ·have bC:=ar @bT (ar @fV @fa);repeat' first
      |refine cO ?_
      |refine lq h dR (λ_ ⟨x,e,dm⟩=>?_);subst e
      |refine lq h dF (λ_ e=>?_);subst e
      |refine lq h k6 (λ_ ⟨y,e,fg⟩=>?_);subst e
      |refine xi h (l:=[_,_,_,_]) rfl rfl λ_ _ _ h r=>?_
      |refine yy h (by repeat first|exact .here _ _|assumption|apply ji.there) (h.bx (.head _)) rfl rfl aS (by rw[gQ];omega) λ_ _ _ _ _ h r=>?_
      |refine Cy rfl (by repeat first|exact trivial|apply kC.eY|refine kC.oO (.inr ⟨_,rfl,λ_ _ h=>(by cases h)⟩) (by decide+kernel) ?_) ?_
      |exact cR (k - 1) _ _ D ⟨j+1,es++ [(aQ.1,aQ.2.1,aQ.2.2,x+y)],_,_,l'+1,rfl,h.sub jq,by simp[xv],lM.app (.one rfl rfl rfl),zH Qk (show aQ.1.natAbs<_∧aQ.2.1.natAbs<_∧aQ.2.2.natAbs<_∧(x+y).natAbs<_ from ⟨D,D,d3,D⟩),D,D⟩
  ·have bC:= @kv;repeat' first
    |refine cO ?_
    |exact PG h ae (.head _) lM.atoms ⟨es,xv,lM,D,Qk⟩) D,by
 show (ep vd && (ep a0 && true))=true;rw[show ep vd=true from let ⟨_,h,_⟩:=av;h.ep,show ep a0=true from let ⟨_,h,_⟩:=Y;h.ep];rfl⟩
end
section
def mY(n:Nat)(c:List V):Prop:=c.length=n∧ ∀x,x∈c-> ∃b,x=.bool b
section
variable {ao s:S}{L:List b2}{n e:Nat}{c:List V}{v:V}
theorem mY.set(h:mY n c)(i:Nat)(b:Bool):mY n (c.set i (.bool b)):=⟨by rw[oC];exact h.1,λx hx=>(M1 hx).elim (h.2 x) λe=>⟨b,e⟩⟩
theorem mY.app(h:mY n c)(b:Bool):mY (n+1) (c++ [.bool b]):=⟨by rw[hZ,h.1];rfl,λx hx=>(mB.1 hx).elim (h.2 x) λe=>⟨b,iu.1 e⟩⟩
theorem mY.re:∀ {c:List V} {n:Nat},mY n c-> ∃bs:List Bool,bs.length=n∧eX 1 yj bs c
 |[],n,h=>⟨[],h.1,.nil⟩
 |x::c,n,h=>by
  obtain ⟨b,rfl⟩:=h.2 x (j5 ..);obtain ⟨bs,J,U⟩:=mY.re (c:=c) (n:=c.length) ⟨rfl,λy aI=>h.2 y (lG _ aI)⟩;exact ⟨b::bs,by rw[qW,J];exact h.1,.cons b [.bool b] bs c rfl rfl rfl U⟩
theorem mY.atoms(h:mY n c):c.all atom=true:=by obtain ⟨_,_,h⟩:=h.re;exact h.atoms
theorem eX.ahU{B:List Bool}(h:eX 1 yj B c):mY B.length c:=by
 refine ⟨by have:=h.len;omega,?_⟩
 induction h with
 |nil=>exact λ_ h=>by cases h
 |cons x c xs cs h Z av ae a3=>
  intro y aI;rcases mB.1 aI with aI|aI
  rw[h]at aI;exact ⟨x,iu.1 aI⟩;exact a3 y aI
theorem aX.hf(h:aX ao s L)(u:b2.ca v e 1 n c∈L)(aa:mY n c){i:Nat}(hi:i<n):∃p b,(∀k,dW 1 v (.int k i)=some (.ptr p i))∧cZ s (.ptr p i)=some (.bool b):=by
 obtain ⟨bs,J,U⟩:=aa.re;obtain ⟨p,x,jS,aC,_,rfl,_,_,_,ba⟩:=h.own u J U hi;rw[ox]at aC ba;exact ⟨p,x,aC,ba rfl⟩
end
theorem Tk:A5.bytes=1∧A6.bytes=64∧A5.size=1:=⟨rfl,rfl,rfl⟩
attribute [local irreducible] jj bZ dp aF gZ cJ et c6 e9 eT aW aw cT bB e5 fD ef gv fl eV fe aV
theorem aey{n:Nat}{x:Rat}{a b c d:V}(J:cH n x a b c d)(a5:n<=100000:=by omega):cI 111 [.agg [a,b,c,d]] (lj λ_=>True):=by
 have:=Gv (q:=x.den) J.2.2;exact pC (ah8 J.1 (by have:=J.2.1;omega) (by have:=acK x.den;have:=J.2.2;omega)) (fJ J.A) ⟨_,rfl,trivial⟩
theorem Uj{A B:Nat}{q:List Rat}{w:V}(Z:q.length<=100)(gW:A<1000000000:=by omega)(fE:B<1000000000:=by omega):
  ∀s:S,s.ag=s.n->l4 s->kk s 4 (kE A B) q w->r5 s (lj λ_=>True) (a9 71 [w] s):=λs ae au a7=>
 (agA (cv aS)).uD 102 (by
  show aV _ (N8 a9 102 w s);unfold N8;simp only[cw];have h:=aX.nil ae au;have r:=h.bX;generalize eO:102=F;have hlen:=a7.len;repeat' first
   |refine iG ?_
   |refine hO (λk vs t=> ∃j:Nat,vs=[.int .i64 j,w]∧aX s t []∧j+k=q.length) q.length ⟨0,rfl,h,D⟩ D ?_
  rintro a3 k _ t ⟨j,rfl,h,mN⟩ cR;have r:=h.bX;by_cases aG:j<q.length
  ·obtain ⟨p,x,c,nr,jo,_,⟨b1,cq,cV,dn,rfl,fH⟩,_,_,_,_,fa,_⟩:=a7.p au (i:=(j:Int)) D D;have jo:=jo .i64;have aB:=aey fH.hE;have bC:=ar @hlen (ar @jo (ar @bT (ar @nv (ar @j6 @lg))));repeat' first
    |refine cO ?_
    |refine mM (by rw[fa _ _ h]) ?_
    |refine iI h aB (λb _=>?_);cases b
    |exact Kn h rfl ⟨_,rfl,trivial⟩
    |exact cR (k - 1) _ _ D ⟨j+1,rfl,h,D⟩
  ·have bC:= @hlen;repeat' first
    |refine cO ?_
    |exact Kn h rfl ⟨_,rfl,trivial⟩) D
def Ws(q v h:Nat)(Q W:List Rat)(gO:Int)(r:V)(L:List b2):Prop:=
 ∃x y z a9 rh lL,r=.agg [.int .i64 gO,x,y,z]∧L=[.ca z 4 1 h lL,.ca y 45 4 v rh,.ca x 45 4 q a9]∧Q.length=q∧W.length=v∧eX 4 (kE 3 3) Q a9∧eX 4 (kE 100 100) W rh∧mY h lL
theorem DE{x y z:V}{a:Int}(U:bL x=true)(aj:bL y=true)(aH:bL z=true):([.int .i64 a,x,y,z]:List V).all bL=true:=DD rfl U aj aH
theorem afa{q w h':V}{Q W:List Rat}{B:List Bool}{gO:Int}(bk:Q.length<=100)(cn:W.length<=100)(dM:B.length<=100):
  ∀s:S,s.ag=s.n->l4 s->kk s 4 (kE 3 3) Q q->kk s 4 (kE 100 100) W w->kk s 1 yj B h'->pU s (Ws Q.length W.length B.length Q W gO) (a9 36 [.agg [.int .i64 gO,q,w,h']] s):=λs ae au a7 hw dE=>
 (agn (cv aS)).uD 0 (by
  show aV _ (NZ a9 0 (.agg [.int .i64 gO,q,w,h']) s);unfold NZ;simp only[cw];have h:=aX.nil ae au;have r:=h.bX;obtain ⟨gh,gQ,cD⟩:=Tk;obtain ⟨cy,s1,aC⟩:=a7;obtain ⟨cm,s2,ba⟩:=hw;obtain ⟨dc,fB,cd⟩:=dE;repeat' first
   |refine iG ?_
   |refine cf h λ_ _ h r=>?_
   |refine c9 h cj (λ_ h r=>?_)
   |refine PB h (s1.mono h) (dB aC.atoms) rfl aS (by rw[gQ];omega) λ_ _ h r=>?_
   |refine PB h (s2.mono h) (dB ba.atoms) rfl aS (by rw[gQ];omega) λ_ _ h r=>?_
   |refine PB h (fB.mono h) (dB cd.atoms) rfl aS (by rw[gh];omega) λ_ _ h r=>?_
   |refine p1 h cj (h.c0 (.head _)) (λ_ h r=>?_)
   |refine c9 h cj (λ_ h r=>?_) (hx:=DE (h.c0 eB) (h.c0 eB) (h.c0 eB))
  exact yA (cu:=[.ca _ 4 1 _ _,.ca _ 45 4 _ _,.ca _ 45 4 _ _]) h rfl ⟨_,_,_,_,_,_,rfl,rfl,rfl,rfl,aC,ba,cd.ahU⟩ jq) D
theorem Uc{m:kl}{v q w h':V}{B:List Bool}{gO:Int}(hm:nD m v)(aE:m.ok)(fE:B.length=m.parts.length):
  ∀s:S,s.ag=s.n->l4 s->kk s 1 yj B h'->pU s (λr L=> ∃c,L=[.ca r 4 1 m.h7.length c]∧mY m.h7.length c) (a9 38 [v,.agg [.int .i64 gO,q,w,h']] s):=λs ae au dE=>
 (agp (cv aS)).uD 1001 (by
  show aV _ (N1 a9 1001 v (.agg [.int .i64 gO,q,w,h']) s);unfold N1;simp only[cw];have h:=aX.nil ae au;have r:=h.bX;generalize eO:1001=F;obtain ⟨gh,gQ,cD⟩:=Tk;have Aa:=aE.d;have CT:=aE.kh;have pt:=aE.parts;obtain ⟨d,p,r',k',rfl,J,U,aj,aH⟩:=hm;have fF:=J.len;have gF:=U.len;have bC:= @fF;repeat' first
   |refine cO ?_
   |refine cf h λ_ _ h r=>?_
   |refine Ff h (ti:=jC 4) (te:=A5) rfl rfl rfl D (by rw[gh];omega) D (z:=1) rfl rfl λout s1 h r=>?_;rw[dZ,show zero A5=[.bool false] from rfl,ac2]at h
   |refine hO (λk vs t=> ∃(j a b:Nat) (c:List V),vs=[.int .i64 j,.ptr a 0,.ptr b 0,out]∧aX s t [.ca out 4 1 m.h7.length c,.cM b [.int .i64 gO,q,w,h'] 33,.cM a [d,p,r',k'] 28]∧mY m.h7.length c∧j+k=m.parts.length) m.parts.length ⟨0,_,_,_,rfl,h,⟨vo,λx hx=>⟨_,(List.mem_replicate.1 hx).2⟩⟩,D⟩ D ?_
  rintro a3 k _ t ⟨j,a,b,c,rfl,h,aa,mN⟩ cR;have r:=h.bX;by_cases aG:j<m.parts.length
  ·obtain ⟨P,jS,lC,de,ej,_,_,dy⟩:=U.c1 (i:=(j:Int)) D D;have dy:=dy .i64;obtain ⟨dm,fg,fy,gH,ho⟩:=pt P (hR de);obtain ⟨sp,fA,gC,gx,g4,gR,jd,l1,pK,kq,fQ,bM,jB,hL,bb,bU,cP,c7,rfl,dj,dL,eH,e0,mK⟩:=ej;have kb:=e0.len;obtain ⟨dA,x,bj,nr,jo,_,rfl,_,_,_,_,_,gY⟩:=dE.p au (i:=(j:Int)) D D;have jo:=jo .i64;have bC:=ar @gF (ar @dy (ar @hJ @bT));repeat' first
    |refine cO ?_
    |refine hO (λk vs t=> ∃(i:Nat) (c:List V),vs=[.int .i64 i,kq,.int .i64 j,.ptr a 0,.ptr b 0,out]∧aX s t [.ca out 4 1 m.h7.length c,.cM b [.int .i64 gO,q,w,h'] 33,.cM a [d,p,r',k'] 28]∧mY m.h7.length c∧i+k=P.ek.length) P.ek.length ⟨0,c,rfl,h,aa,D⟩ D ?_
   clear aa h;rintro xE k' _ t ⟨i,c,rfl,h,aa,na⟩ lO;have r:=h.bX;by_cases hi:i<P.ek.length
   ·obtain ⟨aQ,Cb,rd,v1,⟨d1,d2,d3,d4,aC,ba,cd,ff,f1,f2,f3,f4,rfl,_⟩,_,_,hz⟩:=e0.c1 (i:=(i:Int)) D D;have hz:=hz .i64;have ZB:=ho aQ (hR v1);cases x
    ·have bC:=ar @kb (ar @jo @bT);repeat' first
      |refine cO ?_
      |refine mM (gY _ _ h rfl) ?_
      |exact lO (k' - 1) _ _ D ⟨i+1,c,rfl,h,aa,D⟩
    ·obtain ⟨pp,t1,t2⟩:=yB (Q:=pU s (λr L=> ∃c,L=[.ca r 4 1 m.h7.length c]∧mY m.h7.length c)) (k:=.i64) (i:=(aQ.nG:Int)) (x:=.bool true) h (.here _ _ _) D D rfl;have bC:=ar @kb (ar @jo (ar @hz (ar @hJ (ar @bT @t1))));repeat' first
      |refine cO ?_
      |refine mM (gY _ _ h rfl) ?_
      |refine t2 _ λ_ h r=>?_
      |exact lO (k' - 1) _ _ D ⟨i+1,_,rfl,h,aa.set _ _,D⟩
   ·have bC:=ar @kb @bT;repeat' first
     |refine cO ?_
     |exact cR (k - 1) _ _ D ⟨j+1,_,_,_,rfl,h,aa,D⟩
  ·have bC:= @gF;repeat' first
    |refine cO ?_
    |exact yA h (h.bx (.head _)).bad ⟨c,rfl,aa⟩ jq) D
theorem ae9{m:kl}{v:V}(hm:nD m v)(aE:m.ok):∀s:S,s.ag=s.n->l4 s->pU s (Ws m.h7.length m.h7.length m.parts.length (List.replicate m.h7.length 0) (List.replicate m.h7.length 0) 0) (a9 35 [v] s):=λs ae au=>
 (agm (cv aS)).uD 1001 (by
  show aV _ (NY a9 1001 v s);unfold NY;simp only[cw];have h:=aX.nil ae au;have r:=h.bX;generalize eO:1001=F;obtain ⟨gh,gQ,cD⟩:=Tk;have Aa:=aE.d;have CT:=aE.kh;obtain ⟨d,p,r',k',rfl,J,U,aj,aH⟩:=hm;have fF:=J.len;have gF:=U.len;have aY:zero A6=[.bool false,.af,.bool false,.af]:=rfl;have cy:=eX.cC (R:=kE 3 3) (x:=(0:Rat)) (c:=[.bool false,.af,.bool false,.af]) ⟨_,_,_,_,rfl,ns.mono D D⟩ rfl rfl m.h7.length;have cm:=eX.cC (R:=kE 100 100) (x:=(0:Rat)) (c:=[.bool false,.af,.bool false,.af]) ⟨_,_,_,_,rfl,ns.mono D D⟩ rfl rfl m.h7.length;have bC:= @fF;repeat' first
   |refine cO ?_
   |refine mL h λ_ _ _ h r=>?_
   |refine cf h λ_ _ h r=>?_
   |refine akP h (ti:=jC 45) (te:=A6) rfl rfl rfl D (by rw[gQ];omega) D (z:=4) rfl rfl λ_ _ _ h r=>?_;rw[dZ,aY]at h;have A2:=h.c0 (.head _)
   |refine fN h cj (λ_ _ h r=>?_) (hx:=DE c3 c3 rfl)
   |refine Cy rfl (by repeat first|exact trivial|apply kC.eY|refine kC.oO (.inr ⟨_,rfl,λ_ _ h=>(by cases h)⟩) (by decide+kernel) ?_) ?_
   |refine hO (λk vs t=> ∃(j a b f:Nat) (x y z:V) (c:List V),vs=[.int .i64 j,.ptr a 0,.ptr f 0,.ptr b 0]∧aX s t [.ca z 4 1 j c,.cM f [.int .i64 0,x,y,z] 33,.ca y 45 4 m.h7.length (cC m.h7.length [.bool false,.af,.bool false,.af]),.ca x 45 4 m.h7.length (cC m.h7.length [.bool false,.af,.bool false,.af]),.cM b [.int .i64 0,.af,.af,.af] 33,.cM a [d,p,r',k'] 28]∧mY j c∧j+k=m.parts.length) m.parts.length ⟨0,_,_,_,_,_,.af,[],rfl,h.xU 4 1,⟨rfl,λ_ h=>by cases h⟩,D⟩ D ?_
  rintro a3 k _ t ⟨j,a,b,f,x,y,z,c,rfl,h,aa,mN⟩ cR;have r:=h.bX;by_cases aG:j<m.parts.length
  ·have bC:=ar @gF @bT;repeat' first
    |refine cO ?_
    |refine oT h (l:=[.bool true]) rfl rfl λ_ _ h r=>?_
    |refine vN h hG (h.bx (.head _)) rfl rfl aS (by rw[gh];omega) λ_ _ h r=>?_
    |refine p1 h cj (h.c0 (.head _)) (λ_ h r=>?_)
    |exact cR (k - 1) _ _ D ⟨j+1,_,_,_,_,_,_,_,rfl,h.sub jq,aa.app true,D⟩
  ·have po:j=m.parts.length:=D;subst po;have bC:= @gF;repeat' first
    |refine cO ?_
    |refine c9 h cj (λ_ h r=>?_) (hx:=DE (h.c0 eB) (h.c0 eB) (h.c0 eB))
   exact yA (cu:=[.ca _ 4 1 _ _,.ca _ 45 4 _ _,.ca _ 45 4 _ _]) h rfl ⟨_,_,_,_,_,_,rfl,rfl,vo,vo,cy,cm,aa⟩ jq) D
end
section
theorem api(a b c d:Int):∃q,bH .neq (aJ.get types 100) (.agg [.int .i64 a,.int .i64 b]) (.agg [.int .i64 c,.int .i64 d])=some (.bool q):=⟨_,rfl⟩
theorem asr:Th.bytes=16:=rfl
attribute [local irreducible] jj bZ dp aF gZ cJ et c6 e9 eT aW aw cT bB e5 fD ef gv fl eV fe aV
def Jh(n:Nat)(p:Int×Int):Prop:=0<=p.1∧p.1<n∧0<=p.2∧p.2<n
theorem afm{m:kl}{v q w h':V}{B:List Bool}{gO:Int}(hm:nD m v)(aE:m.ok)(fE:B.length=m.parts.length):
  ∀s:S,s.ag=s.n->l4 s->kk s 1 yj B h'->pU s (λr L=> ∃l c ps,L=[.ca r 100 2 l c]∧ps.length=l∧l<=100∧eX 2 l7 ps c∧ ∀p,p∈ps->Jh m.parts.length p) (a9 73 [v,.agg [.int .i64 gO,q,w,h']] s):=λs ae au dE=>
 (agC (cv aS)).uD 1001 (by
  show aV _ (Oa a9 1001 v (.agg [.int .i64 gO,q,w,h']) s);unfold Oa;simp only[cw];have h:=aX.nil ae au;have r:=h.bX;generalize eO:1001=F;have gh:=asr;have CT:=aE.kh;have uN:=aE.aT;obtain ⟨d,p,r',k',rfl,J,U,aj,aH⟩:=hm;have gF:=U.len;have Al:=aH.len;have ZO:=λ{j:Nat} (aG:j<m.parts.length)=>dE.p au (i:=(j:Int)) D D;generalize m.parts.length=N at*;repeat' first
   |refine iG ?_
   |refine cf h λ_ _ h r=>?_
   |refine hO (λk vs t=> ∃(i a b:Nat) (o:V) (l:Nat) (c:List V) (ps:List (Int×Int)),vs=[.int .i64 i,.ptr b 0,.ptr a 0,o]∧aX s t [.ca o 100 2 l c,.cM b [.int .i64 gO,q,w,h'] 33,.cM a [d,p,r',k'] 28]∧ps.length=l∧l<=8*i∧eX 2 l7 ps c∧(∀x,x∈ps->Jh N x)∧i+k=N) N ⟨0,_,_,.af,0,[],[],rfl,h.xU 100 2,rfl,D,.nil,(λ_ h=>by cases h),D⟩ D ?_
  rintro a3 k _ t ⟨i,a,b,o,l,c,ps,rfl,h,Z,QC,aa,oW,na⟩ cR;have r:=h.bX;by_cases hi:i<N
  ·obtain ⟨e1,fA,_,_,jo,_,rfl,_,_,_,_,_,gY⟩:=ZO hi;have jo:=jo .i64;have bC:=ar @gF @bT;repeat' first
    |refine cO ?_
    |refine hO (λk vs t=> ∃(j:Nat) (o:V) (l:Nat) (c:List V) (ps:List (Int×Int)),vs=[.int .i64 j,.int .i64 i,.ptr b 0,.ptr a 0,o]∧aX s t [.ca o 100 2 l c,.cM b [.int .i64 gO,q,w,h'] 33,.cM a [d,p,r',k'] 28]∧ps.length=l∧l<=8*i+(j - 1)∧eX 2 l7 ps c∧(∀x,x∈ps->Jh N x)∧j+k=N∧1<=j) (N - (i+1)) ⟨i+1,o,l,c,ps,rfl,h,Z,D,aa,oW,D,D⟩ D ?_
   clear h aa oW Z QC r;rintro xE k' _ t ⟨j,o,l,c,ps,rfl,h,Z,QC,aa,oW,mN,KW⟩ lO;have r:=h.bX;by_cases aG:j<N
   ·obtain ⟨ei,gC,_,_,v0,_,rfl,_,_,_,_,_,v4⟩:=ZO aG;have v0:=v0 .i64;cases fA<;>cases gC;all_goals
     have bC:=ar @jo (ar @v0 (ar @bT @gF));repeat' first
      |refine cO ?_
      |refine mM (gY _ _ h rfl) ?_
      |refine mM (v4 _ _ h rfl) ?_
      |refine hO (λk vs u=>u=t∧ ∃(n:Nat) (f:Bool),vs=[.int .i64 n,.bool f,.int .i64 j,.int .i64 i,.ptr b 0,.ptr a 0,o]∧n+k=m.skip.length) m.skip.length ⟨rfl,0,_,rfl,D⟩ D ?_
     rintro Lu aT _ _ ⟨rfl,n,f,rfl,auU⟩ Ai;have r:=h.bX;by_cases a5:n<m.skip.length
     ·obtain ⟨cB,jS,lC,de,rfl,_,_,dy⟩:=aH.c1 (i:=(n:Int)) D D;have dy:=dy .i64;obtain ⟨g,si⟩:=api cB.1 cB.2 i j;cases f
      ·have bC:=ar @Al @bT;repeat' first
        |refine cO ?_
        |exact Ai (aT - 1) _ _ D ⟨rfl,n+1,_,rfl,D⟩
      ·have bC:=ar @Al (ar @bT (ar @dy (ar @hJ @si)));repeat' first
        |refine cO ?_
        |exact Ai (aT - 1) _ _ D ⟨rfl,n+1,_,rfl,D⟩
     ·cases f
      ·have bC:=ar @Al @bT;repeat' first
        |refine cO ?_
        |exact lO (k' - 1) _ _ D ⟨j+1,o,l,c,ps,rfl,h,Z,D,aa,oW,D,D⟩
      ·have bC:=ar @Al @bT;repeat' first
        |refine cO ?_
        |refine oT h (l:=[.int .i64 i,.int .i64 j]) rfl rfl λ_ _ h r=>?_
        |refine vN h hG (h.bx (.head _)) rfl rfl aS (by rw[gh];omega) λ_ _ h r=>?_
        |exact lO (k' - 1) _ _ D ⟨j+1,_,l+1,_,ps++ [((i:Int),(j:Int))],rfl,h.sub jq,by simp[Z],D,aa.app (.one rfl rfl rfl),zH oW ⟨by show (0:Int)<=i;omega,by show (i:Int)<N;omega,by show (0:Int)<=j;omega,by show (j:Int)<N;omega⟩,D,D⟩
   ·have bC:=ar @gF @bT;repeat' first
     |refine cO ?_
     |exact cR (k - 1) _ _ D ⟨i+1,_,_,o,l,c,ps,rfl,h,Z,D,aa,oW,D⟩
  ·have bC:= @gF;repeat' first
    |refine cO ?_
    |exact yA h (h.bx (.head _)).bad ⟨l,c,ps,rfl,Z,D,aa,oW⟩ jq) D
end
end Go.ah.X
