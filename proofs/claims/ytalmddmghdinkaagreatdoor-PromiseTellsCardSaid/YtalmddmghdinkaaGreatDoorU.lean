/-
  A part: lemmas; conditions: those that each names.
-/
import Derived.Test.YtalmddmghdinkaaGreatDoorT
set_option linter.all false
set_option linter.deprecated false
noncomputable section
set_option maxRecDepth 20000
namespace Go.ah.X
open Go Go.ah Go.Proofs.dI
theorem aie{x y:Int}{a b:V}(av:bN x a)(Y:bN y b)(Z:(aL x.natAbs).length<=1000000)(dK:(aL y.natAbs).length<=1000000):h6 a9 159 [a,b] (bN ((Nat.gcd x.natAbs y.natAbs:Nat):Int)):=λs ae=>
 (U1 (cv aS)).kQ (y.natAbs+1000000000000000002) (by
  obtain ⟨d,rfl,ai⟩:=av;obtain ⟨e,rfl,he⟩:=Y;show eE s _ (H5 a9 _ (.agg [.bool (decide (x<0)),d]) (.agg [.bool (decide (y<0)),e]) s);unfold H5;simp only[cw];generalize eO:y.natAbs+1000000000000000002=F;obtain ⟨s1,aC,bb,bk,aB,ed⟩:=eL [.bool (decide (x<0)),d] 43 (Loc.refl ae);obtain ⟨s2,ba,bU,cn,aT,gu⟩:=eL [.bool (decide (y<0)),e] 43 bk;obtain ⟨fB,cd,cP,dM,bp,k7⟩:=eL [.bool false,.af] 43 cn;have fk:=(bb.a1 aT (by simp)).a1 bp (by simp);have iv:=bU.a1 bp (by simp);obtain ⟨u,⟨_,hu⟩,ff⟩:=ln (zN false ai D) (df rfl (bV.a2 ai)) dM.ag;have hu:=hu (gK _);rw[gq]at hu;obtain ⟨vI,rfl,vS⟩:=bN.nat hu;obtain ⟨w,⟨_,hw⟩,jT⟩:=ln (zN false he D) (df rfl (bV.a2 he)) dM.ag;have hw:=hw (gK _);rw[gq]at hw;obtain ⟨EW,rfl,uI⟩:=bN.nat hw;obtain ⟨hF,aH,h0,c7,eU,eh,o0⟩:=EB (cs:=[.bool false,.af]) (t:=43) (r:=some []) dM;obtain ⟨rT,bD,me,iw,hy,eo,tI⟩:=EB (cs:=[.bool false,.af]) (t:=43) (r:=some []) eU;have FE:=cP.hi;have KU:=c7.hi;obtain ⟨GP,ys,oM,nj,g2,wj⟩:=(c7.a1 eo (by simp)).qJ (r:=some (cp.cc (.ptr fB.n 0))) (w:=some (cp.cc (.ptr fB.n 0))) (l:=[.bool false,vI]) (z:=2) hy rfl rfl (oS vS).1;obtain ⟨adi,EX,ahD,tE,jy,abH⟩:=(iw.a1 g2 (by simp;omega)).qJ (r:=some (cp.cc (.ptr hF.n 0))) (w:=some (cp.cc (.ptr hF.n 0))) (l:=[.bool false,EW]) (z:=2) nj rfl rfl (oS uI).1;have ahC:=oM.a1 jy (by simp;omega);have w7:=(((cP.a1 eh (by simp)).a1 eo (by simp)).a1 g2 (by simp;omega)).a1 jy (by simp;omega);simp (disch:=omega) only[st,e2,gf,aC,ba,cd,du,fk.bM,iv.bM,ff,jT,h0,me,ys,EX];refine lb (zV [] 10 rfl (.eY (.eY (.eY (.eY (.eY (.eY (.eY (.eY (.oO (.inr ⟨_,rfl,λ_ _ h=>by cases h⟩) aS (.oO (.inr ⟨_,rfl,λ_ _ h=>by cases h⟩) aS trivial))))))))))) ?_;simp (disch:=omega) only[cW];refine jO (eE s _) (λk vs t=> ∃(X bJ:Nat) (nH md:V),vs=[.ptr hF.n 0,.ptr fB.n 0,.ptr s2.n 0]∧Loc s t∧dN s t hF.n [.bool false,md] 43 false∧dN s t fB.n [.bool false,nH] 43 false∧dN s t s2.n [.bool false,.af] 43 false∧
   bV .i64 nH (aL X)∧bV .i64 md (aL bJ)∧(aL X).length<=1000000∧(aL bJ).length<=1000000∧Nat.gcd x.natAbs y.natAbs=Nat.gcd X bJ∧k=bJ) ?_ _ y.natAbs _ _
   ⟨x.natAbs,y.natAbs,vI,EW,rfl,tE,ahD,ahC,w7,vS,uI,Z,dK,rfl,rfl⟩ D
  rintro a3 k _ t ⟨X,bJ,nH,md,rfl,b6,qN,rS,qr,kz,jv,QH,FK,au,rfl⟩ cR;by_cases n4:k=0;subst n4;have aY:(aL 0).length=0:=by rw[jm];rfl
  simp (disch:=omega) only[cW,st,bg,du,qN.bM,rS.bM,jv.len];rw[au,M4];exact ⟨_,bN.wo kz,qO qr b6 ae rfl rfl (oS kz).2⟩;have yW:0<(aL k).length:=Hn.2 (AL n4);have f1:=hh (aP:=false) (st:=false) (EG kz (gK _)) (fJ kz.a2) b6.ag;have f2:=hh (aP:=false) (st:=false) (EG jv (gK _)) (fJ jv.a2) b6.ag;rw[gq]at f1 f2;by_cases U:(aL X).length<=2∧(aL k).length<=2;have g8:=wG U.1;have uN:=wG U.2;rw[if_pos U.1]at f1;rw[if_pos U.2]at f2;simp (disch:=omega) only[cW,st,bg,du,qN.bM,rS.bM,jv.len,f1,f2];refine jO (eE s _) (λj vs u=> ∃(m n:Nat),vs=[.int .i64 n,.int .i64 m,.ptr s2.n 0]∧t=u∧Nat.gcd x.natAbs y.natAbs=Nat.gcd m n∧j=n∧m<1000000000000000000∧n<1000000000000000000) ?_ _ k _ _
   ⟨X,k,rfl,rfl,au,rfl,g8,uN⟩ D
  rintro xE j _ _ ⟨m,n,rfl,rfl,si,rfl,hm,QM⟩ lO;by_cases aG:j=0;subst aG;obtain ⟨c,aa,f3⟩:=hI (aP:=false) (st:=true) (EH false m D) (df rfl rfl) b6.ag;have lM:bN (m:Int) c:=aa;obtain ⟨jk,rfl,g1⟩:=bN.nat lM;simp (disch:=omega) only[cW,st,bg,show ((0:Nat):Int)=0 from rfl,vC,Bg,f3];rw[si,M4];exact ⟨_,bN.wo g1,qO qr b6 ae rfl rfl (oS g1).2⟩;have yT:=x5 m (show j>0 by omega);simp (disch:=omega) only[cW,st,bg];exact lO (m % j) _ _ yT ⟨j,m % j,by rw[zy],rfl,by rw[si];exact Kd m j,rfl,QM,D⟩;have FN:X % k<k:=x5 _ D;obtain ⟨bM,⟨DA,Mo,mu,gB,rfl,yX,Lf⟩,f3⟩:=hI (aP:=false) (st:=true) (aij kz jv D QH FK) (df kz.a2 jv.a2) b6.ag;obtain ⟨O7,rfl,Qe⟩:=yX;obtain ⟨zU,rfl,ru⟩:=bN.nat Lf;obtain ⟨t1,dL,cy,dR,e6,_⟩:=eL [.bool false,.af] 43 b6;obtain ⟨t2,eH,cm,dF,fo,_⟩:=eL [.bool false,.af] 43 dR;have hB:=cy.hi;obtain ⟨t3,e0,dc,k6,g9,_⟩:=(cy.a1 fo (by simp)).put (l:=[.bool mu,O7]) (z:=2) dF rfl rfl (lH.atoms Qe).1;obtain ⟨t4,mK,dw,ly,h4,_⟩:=(cm.a1 g9 (by simp;omega)).put (l:=[.bool false,zU]) (z:=2) k6 rfl rfl (oS ru).1;have am1:=qN.hi;have am0:=rS.hi;have amZ:=qr.hi;have wy:=(((qN.a1 e6 (by simp)).a1 fo (by simp)).a1 g9 (by simp;omega)).a1 h4 (by simp;omega);have Dt:=(((rS.a1 e6 (by simp)).a1 fo (by simp)).a1 g9 (by simp;omega)).a1 h4 (by simp;omega);have xS:=(((qr.a1 e6 (by simp)).a1 fo (by simp)).a1 g9 (by simp;omega)).a1 h4 (by simp;omega);obtain ⟨t5,rl,Ss,xJ,p9,_⟩:=Dt.qJ (r:=some (cp.cc (.ptr fB.n 0))) (w:=some (cp.cc (.ptr fB.n 0))) (l:=[.bool false,md]) (z:=2) ly rfl rfl (oS jv).1;obtain ⟨t6,Fb,St,AH,rF,_⟩:=(wy.a1 p9 (by simp;omega)).qJ (r:=some (cp.cc (.ptr hF.n 0))) (w:=some (cp.cc (.ptr hF.n 0))) (l:=[.bool false,zU]) (z:=2) xJ rfl rfl (oS ru).1;have goal:eE s (bN ((Nat.gcd x.natAbs y.natAbs:Nat):Int)) (a3 [.ptr hF.n 0,.ptr fB.n 0,.ptr s2.n 0] t6):=
   cR (X % k) _ _ FN ⟨k,X % k,md,zU,rfl,AH,St,Ss.a1 rF (by simp;omega),(xS.a1 p9 (by simp;omega)).a1 rF (by simp;omega),jv,ru,FK,by have:=oi (nY FN);omega,by rw[au];exact Kd X k,rfl⟩
  by_cases aj:(aL X).length<=2;rw[if_pos aj]at f1;rw[if_neg (λh=>U ⟨aj,h⟩)]at f2;simp (disch:=omega) only[cW,st,bg,du,qN.bM,rS.bM,jv.len,f1,f2,f3,dL,eH,e0,mK,e2,wy.bM,dw.bM,rl,Fb];exact lb (Ch D) goal;rw[if_neg aj]at f1;by_cases aH:(aL k).length<=2;rw[if_pos aH]at f2;simp (disch:=omega) only[cW,st,bg,du,qN.bM,rS.bM,jv.len,f1,f2,f3,dL,eH,e0,mK,e2,wy.bM,dw.bM,rl,Fb];exact lb (Ch D) goal;rw[if_neg aH]at f2;simp (disch:=omega) only[cW,st,bg,du,qN.bM,rS.bM,jv.len,f1,f2,f3,dL,eH,e0,mK,e2,wy.bM,dw.bM,rl,Fb];exact lb (Ch D) goal) D
theorem aid{neg:Bool}{l:List Int}{a:V}(av:lH neg l a)(Z:l.length<=1000000000):km a9 158 [a] (.bool (xQ neg l)):=λs ae=>
 (U0 (cv aS)).run 0 (by
  obtain ⟨d,rfl,ai⟩:=av;show H4 a9 0 (.agg [.bool neg,d]) s=_;unfold H4;simp only[cw];obtain ⟨s1,aC,bb,bk,aB,ed⟩:=eL [.bool neg,d] 43 (Loc.refl ae);unfold xQ;cases neg with
  |true=>
   simp (disch:=omega) only[st,bg,gf,aC,du,bb.bM,o8,j6];exact e7 rfl D bk.eK
  |false=>
   by_cases J:l.length=1;simp (disch:=omega) only[st,bg,gf,aC,du,bb.bM,o8,lg,ai.len,J,ai.c1,hb,Int.toNat_zero];rw[e7 rfl D bk.eK];simp;simp (disch:=omega) only[st,bg,gf,aC,du,bb.bM,o8,lg,ai.len];rw[e7 rfl D bk.eK];simp[J]) D
def Fr(ao s:S)(x:V)(l:Nat)(cs:List V):Prop:=(x=.af∧l=0∧cs=[])∨ ∃b,x=.bx b 0 l l 1∧ao.n<=b∧b<s.n∧kY s b cs∧cs.length=l
theorem dN.Mf{ao s:S}{b t:Nat}{bw:Bool}{b1 cq cV dn ui OA OB Jq:V}(h:dN ao s b [b1,cq,cV,dn,ui,OA,OB,Jq] t bw):
  bf 4 s (.ptr b 0)=some (.agg [b1,cq,cV,dn])∧bf 4 s (.ptr b 4)=some (.agg [ui,OA,OB,Jq])∧bf 8 s (.ptr b 0)=some (.agg [b1,cq,cV,dn,ui,OA,OB,Jq]):=
 ⟨kN h.rd (by simp),kN h.rd (by simp),kN h.rd (by simp)⟩
theorem sZ{n m:Int}(hm:0<m):0<=oI n m∧oI n m<m:=by
 unfold oI;split;exact ⟨zw _ D,zv _ hm⟩;exact ⟨zw _ D,zv _ hm⟩
theorem zI{l:List Int}{i m:Int}(hm:0<m):0<=pW l i m∧pW l i m<m:=by
 unfold pW;split;omega;exact sZ hm
theorem iZ{x:Nat}(h:x<1000000000):(aL x).length<=1:=nm D
theorem l6.cells{m n:Nat}{r:V}(h:l6 m n r):∃a b c d,r=.agg [a,b,c,d]∧([a,b,c,d]:List V).all atom=true∧([a,b,c,d]:List V).all bL=true:=by
 obtain ⟨p,q,_,⟨d,e,rfl,ai,he⟩,_⟩:=h;exact ⟨_,_,_,_,rfl,(pe.atoms ai he).2,(pe.atoms ai he).1⟩
theorem Xg{n:Int}(aR:0<=n)(J:n<4096):h6 a9 129 [.int .i64 n] (l6 20 8):=λs ae=>
 (UG (cv aS)).kQ 0 (by
  show eE s _ (HK a9 0 (.int .i64 n) s);unfold HK;simp only[cw];obtain ⟨s1,aC,bb,bk,aB,ed⟩:=eL [.bool false,.af,.bool false,.af] 45 (Loc.refl ae);have f1:=hh (aP:=false) (st:=true) (oN n 41 D D D D) (df rfl rfl) bk.ag;have nO:=sZ (n:=n) (m:=41) D;have kc:bW (cC 6 [(.int .i64 0)]) [(0,1,(.int .i64 1)),(1,1,(.int .i64 1)),(2,1,(.int .i64 2)),(3,1,(.int .i64 3)),(4,1,(.int .i64 5)),(5,1,(.int .i64 8))]=some (.agg (fp [1,1,2,3,5,8])):=rfl;obtain ⟨x,t1,f2,dm,dR,e6,dj⟩:=uq (e:=3) (z:=1) (len:=6) bk kc rfl;have f3:=hh (aP:=false) (st:=true) (oN (n / 41) 6 D D D D) (df rfl rfl) dR.ag;have tu:=sZ (n:=n / 41) (m:=6) D;have fk:=bb.a1 e6 (by simp);generalize oI n 41=u at*;generalize oI (n / 41) 6=w at*;obtain ⟨p,f4,f5⟩:=dm.at .i64 (i:=w) D D;rw[C4 _ (by simp;omega)]at f5;have ad:1<=([1,1,2,3,5,8]:List Int).getD w.toNat 0∧([1,1,2,3,5,8]:List Int).getD w.toNat 0<=8:=by
   have:w.toNat=0∨w.toNat=1∨w.toNat=2∨w.toNat=3∨w.toNat=4∨w.toNat=5:=D;rcases this with h|h|h|h|h|h<;>rw[h]<;>decide
  generalize ([1,1,2,3,5,8]:List Int).getD w.toNat 0=y at*;obtain ⟨r,E,f6⟩:=hI (aP:=false) (st:=true) (Xq (p:=u - 20) (q:=y) (by unfold ez;omega) (by unfold ez;omega)) (df rfl rfl) dR.ag;simp (disch:=omega) only[st,bg,aC,f1,bT,f2,f3,f4,f5,f6];obtain ⟨P,Q,jX,m5,vQ,rp⟩:=E;have vO:=m5;obtain ⟨d,e,rfl,ai,he⟩:=m5;exact ⟨_,⟨P,Q,jX,vO,D,D⟩,qO fk dR ae rfl rfl (pe.atoms ai he).2⟩) D
def ag0(r:V):Prop:= ∃b1 cq cV dn bb bU cP c7,r=.agg [b1,cq,cV,dn,bb,bU,cP,c7]∧l6 20 8 (.agg [b1,cq,cV,dn])∧l6 20 8 (.agg [bb,bU,cP,c7])
theorem Jz{m n:Nat}{a b c d:V}(h:l6 m n (.agg [a,b,c,d])):([a,b,c,d]:List V).all atom=true:=by
 obtain ⟨a8,a4,bj,bK,J,U,_⟩:=h.cells;cases J;exact U
theorem j8{p:V->Bool}{a b:List V}(av:a.all p=true)(Y:b.all p=true):(a++b).all p=true:=by rw[Bx,av,Y];rfl
theorem dB{l:List V}(h:l.all atom=true):l.all bL=true:=by
 rw[fj]at h ⊢;exact λx hx=>Jy (h x hx)
theorem Xw{v:V}{l:List Int}(ad:bV .i64 v l)(E:∀x,x∈l->ez x){i:Int}(aR:0<=i)(J:i<=1000):h6 a9 82 [v,.int .i64 i] ag0:=λs ae=>
 (VV (cv aS)).kQ 0 (by
  show eE s _ (I4 a9 0 v (.int .i64 i) s);unfold I4;simp only[cw];obtain ⟨s1,aC,bb,bk,aB,ed⟩:=eL [.bool false,.af,.bool false,.af,.bool false,.af,.bool false,.af] 47 (Loc.refl ae);have cV:∀j:Int,([v,.int .i64 j,.int .i64 4096]:List V).all a2=true:=λj=>by simp only[gS,pM,ad.a2];rfl
  have f1:=hh (aP:=false) (st:=true) (JF ad E i 4096 D D) (cV _) bk.ag;have fQ:=zI (l:=l) (i:=i) (m:=4096) D;obtain ⟨x,hx,f2⟩:=hI (aP:=false) (st:=true) (Xg fQ.1 fQ.2) (fJ rfl) bk.ag;have f3:=hh (aP:=false) (st:=true) (JF ad E (i+1) 4096 D D) (cV _) bk.ag;have bM:=zI (l:=l) (i:=i+1) (m:=4096) D;obtain ⟨y,aI,f4⟩:=hI (aP:=false) (st:=true) (Xg bM.1 bM.2) (fJ rfl) bk.ag;obtain ⟨fA,gC,gx,g4,rfl,F7,_⟩:=hx.cells;obtain ⟨gh,gQ,cD,jD,rfl,Gb,_⟩:=aI.cells;have aM:bW [.bool false,.af,.bool false,.af,.bool false,.af,.bool false,.af] [(0,4,.agg [fA,gC,gx,g4]),(4,4,.agg [gh,gQ,cD,jD])]=some (.agg [fA,gC,gx,g4,gh,gQ,cD,jD]):=rfl;simp (disch:=omega) only[st,bg,aC,f1,f2,bT,f3,f4,aM];exact ⟨_,⟨_,_,_,_,_,_,_,_,rfl,hx,aI⟩,qO bb bk ae rfl rfl (j8 F7 Gb)⟩) D
def o1(x:Int×Nat):Prop:=sX x.1 x.2∧(aL x.1.natAbs).length<=50000∧(aL x.2).length<=50000
abbrev hq:Type:=(Int×Nat)×(Int×Nat)×(Int×Nat)×(Int×Nat)
def hq.ok(b:hq):Prop:=o1 b.1∧o1 b.2.1∧o1 b.2.2.1∧o1 b.2.2.2
def sW(b:hq)(cs:List V):Prop:= ∃b1 cq cV dn bb bU cP c7 cy cm dc dw d1 d2 d3 d4,cs=[b1,cq,cV,dn,bb,bU,cP,c7,cy,cm,dc,dw,d1,d2,d3,d4]∧
 jf b.1.1 b.1.2 (.agg [b1,cq,cV,dn])∧jf b.2.1.1 b.2.1.2 (.agg [bb,bU,cP,c7])∧jf b.2.2.1.1 b.2.2.1.2 (.agg [cy,cm,dc,dw])∧jf b.2.2.2.1 b.2.2.2.2 (.agg [d1,d2,d3,d4])
theorem jf.atoms{p:Int}{q:Nat}{a b c d:V}(h:jf p q (.agg [a,b,c,d])):([a,b,c,d]:List V).all atom=true:=h.a2
theorem sW.atoms{b:hq}{cs:List V}(h:sW b cs):cs.all atom=true∧cs.length=16:=by
 obtain ⟨b1,cq,cV,dn,bb,bU,cP,c7,cy,cm,dc,dw,d1,d2,d3,d4,rfl,J,U,aj,aH⟩:=h;exact ⟨j8 J.atoms (j8 U.atoms (j8 aj.atoms aH.atoms)),rfl⟩
inductive hr:List hq->List V->Prop
 |nil:hr [] []
 |cons (b:hq) (c:List V) (bs:List hq) (cs:List V) (h:sW b c) (ae:hr bs cs):hr (b::bs) (c++cs)
theorem hr.atoms{bs:List hq}{cs:List V}(h:hr bs cs):cs.all atom=true∧cs.length=bs.length*16:=by
 induction h with
 |nil=>exact ⟨rfl,rfl⟩
 |cons b c bs cs h _ a3=>exact ⟨j8 h.atoms.1 a3.1,by rw[hZ,h.atoms.2,a3.2,qW];omega⟩
theorem hr.app{bs pY:List hq}{cs cs':List V}(h:hr bs cs)(h':hr pY cs'):hr (bs++pY) (cs++cs'):=by
 induction h with
 |nil=>exact h'
 |cons b c bs cs h _ a3=>rw[vl];exact .cons _ _ _ _ h a3
theorem hr.one{b:hq}{c:List V}(h:sW b c):hr [b] c:=by
 have:=hr.cons b c [] [] h .nil
 rwa [hd]at this
theorem hr.at{bs:List hq}{cs:List V}(h:hr bs cs){i:Nat}(hi:i<bs.length):∃b,bs[i]? =some b∧sW b ((cs.drop (i*16)).take 16):=by
 induction h generalizing i with
 |nil=>simp at hi
 |cons b c bs cs h _ a3=>
  cases i with
  |zero=>
   refine ⟨b,rfl,?_⟩;rw[Bq,h5,List.take_append_of_le_length (by rw[h.atoms.2];omega),l2 (by rw[h.atoms.2];omega)];exact h
  |succ i=>
   obtain ⟨a4,J,U⟩:=a3 (i:=i) (by simpa using hi);refine ⟨a4,by simpa using J,?_⟩;have:(c++cs).drop ((i+1)*16)=cs.drop (i*16):=by
    rw[List.drop_append,pb (by rw[h.atoms.2];omega),hp,h.atoms.2];congr 1;omega
   rw[this];exact U
def ud(s:S)(e:Nat)(P:List hq->Prop)(r:ax):Prop:= ∃bs cs,P bs∧hr bs cs∧pT s e 16 bs.length cs r
theorem bz.aq2{O:bo}{G:aJ Func}{T:Types}{f:Nat}{F:Fn}(nK:bz O G T f F)(n:Nat){args:List V}{s:S}{e:Nat}{P:List hq->Prop}(h:ud s e P (F (mb O G T) n args s))(hw:s.ag<=s.n):ud s e P (mb O G T f args s):=by
 obtain ⟨bs,cs,al,E,a5⟩:=h;exact ⟨bs,cs,al,E,nK.runN n a5 hw⟩
theorem AB(s:S)(e:Nat)(P:List hq->Prop)(f:List V->S->ax)(c:(List V->S->ax)->ax):ud s e P (aw f c)=ud s e P (c f):=propext ⟨id,id⟩
theorem asT{s:S}{e:Nat}{P:List hq->Prop}{m:List Nat}{l:List ct}{k:ax}(h:fe m l=true)(h':ud s e P k):ud s e P (gZ (fe m l) k):=by rw[MQ h];exact h'
def qi(x:Int×Nat):Prop:=sX x.1 x.2∧x.1.natAbs<=100000∧x.2<=1000
theorem qi.o1{x:Int×Nat}(h:qi x):o1 x:=by
 obtain ⟨aR,J,U⟩:=h;have:=iZ (x:=x.1.natAbs) D;have:=iZ (x:=x.2) D;exact ⟨aR,D,D⟩
def hq.eQ(b:hq):Prop:=qi b.1∧qi b.2.1∧qi b.2.2.1∧qi b.2.2.2
theorem hq.eQ.ok{b:hq}(h:b.eQ):b.ok:=⟨h.1.o1,h.2.1.o1,h.2.2.1.o1,h.2.2.2.o1⟩
theorem l6.qi{m n:Nat}{r:V}(h:l6 m n r)(hm:m<=100000)(a5:n<=1000):∃x:Int×Nat,X.qi x∧jf x.1 x.2 r:=by
 obtain ⟨p,q,jX,m5,J,U⟩:=h;exact ⟨(p,q),⟨jX,by simp only[];omega,by simp only[];omega⟩,m5⟩
theorem l6.A1{a:V}(h:l6 20 8 a):∃p q,sX p q∧jf p q a∧p.natAbs<=20∧q<=8∧(aL p.natAbs).length<=100000∧(aL q).length<=100000:=by
 obtain ⟨p,q,jX,m5,J,U⟩:=h;have:=iZ (x:=p.natAbs) D;have:=iZ (x:=q) D;exact ⟨p,q,jX,m5,J,U,D,D⟩
theorem abu{a b:V}(av:l6 20 8 a)(Y:l6 20 8 b):∃P:V->Prop,h6 a9 83 [b,b] P∧ ∀c,P c->a2 c=true∧h6 a9 33 [a,c] (l6 100000 1000):=by
 obtain ⟨p,q,jX,m5,J,U,aj,aH⟩:=av.A1;obtain ⟨dA,q',Y8,vO,iT,jW,z0,Fm⟩:=Y.A1;refine ⟨_,aiz vO vO Y8.1 Y8.1 ⟨z0,Fm⟩ ⟨z0,Fm⟩,λc aa=>⟨aa.a2,?_⟩⟩;obtain ⟨ei,cS,alr,ak0,dj,dL⟩:=aa;have i1:dA.natAbs*dA.natAbs<=20*20:=nA iT iT;have i2:q'*q'<=8*8:=nA jW jW;have:=iZ (x:=ei.natAbs) D;have:=iZ (x:=cS) D;have alF:=Xs m5 ak0 jX.1 alr.1 ⟨aj,aH⟩ ⟨D,D⟩;have i3:p.natAbs*cS<=20*64:=nA J D;have i4:ei.natAbs*q<=400*8:=nA D U;have i5:q*cS<=8*64:=nA U D;intro s ae;obtain ⟨v,⟨P,Q,als,ak1,aB,aT⟩,h⟩:=alF s ae;exact ⟨v,⟨P,Q,als,ak1,D,D⟩,h⟩
theorem air{v:V}{l:List Int}(ad:bV .i64 v l)(E:∀x,x∈l->ez x)(s:S)(ae:s.ag=s.n):ud s 49 (λbs=>bs.length<=12∧ ∀b,b∈bs->b.eQ) (a9 39 [v] s):=
 (VA (cv aS)).aq2 20 (by
  show ud s 49 _ (IH a9 20 v s);unfold IH;simp only[cw];generalize eO:20=F;simp (disch:=omega) only[AB];refine jO (ud s 49 _) (λk vs t=> ∃(i:Nat) (x:V) (bs:List hq) (cs:List V),vs=[.int .i64 i,v,x]∧Loc s t∧cl s t 49 16 x bs.length cs∧hr bs cs∧(∀b,b∈bs->b.eQ)∧bs.length<=i∧i+k=13∧i<=12) ?_ _ 13 _ _ ⟨0,.af,[],[],rfl,Loc.refl ae,.nil,.nil,(λb Y=>by cases Y),cg _,rfl,D⟩ D;rintro a3 k _ t ⟨i,x,bs,cs,rfl,b6,aE,Y,cK,n6,na,aut⟩ cR;have done:ud s 49 (λbs=>bs.length<=12∧ ∀b,b∈bs->b.eQ) (bB s t [some x]):=
   ⟨bs,cs,⟨D,cK⟩,Y,Cl ae b6 aE Y.atoms.1⟩
  by_cases J:4*i<l.length
  ·by_cases U:i<12
   ·obtain ⟨lo,ih,f1⟩:=hI (aP:=false) (st:=true) (Xw ad E (i:=4*(i:Int)) D D) (df ad.a2 rfl) b6.ag;obtain ⟨b1,cq,cV,dn,bb,bU,cP,c7,rfl,gW,fE⟩:=ih;have Zi:=Jz gW;have Zj:=Jz fE;obtain ⟨t1,f2,cy,dR,e6,ed⟩:=qx (cs:=[.bool false,.af,.bool false,.af,.bool false,.af,.bool false,.af]) (l:=[b1,cq,cV,dn,bb,bU,cP,c7]) (t:=47) (z:=8) b6 rfl rfl (dB (j8 Zi Zj));obtain ⟨o5,iN,f3⟩:=hI (aP:=false) (st:=true) (Xw ad E (i:=4*(i:Int)+2) D D) (df ad.a2 rfl) dR.ag;obtain ⟨de,ej,dy,jc,fV,fH,fa,gY,rfl,Ky,m6⟩:=iN;have Zk:=Jz Ky;have Zl:=Jz m6;obtain ⟨t2,f4,cm,dF,fo,gu⟩:=qx (cs:=[.bool false,.af,.bool false,.af,.bool false,.af,.bool false,.af]) (l:=[de,ej,dy,jc,fV,fH,fa,gY]) (t:=47) (z:=8) dR rfl rfl (dB (j8 Zk Zl));have s4:=cy.a1 fo (by simp);obtain ⟨BK,Am,nN⟩:=abu gW Ky;obtain ⟨BL,vX,tr⟩:=abu fE m6;have WJ:a2 (.agg [de,ej,dy,jc])=true:=Zk;have WK:a2 (.agg [fV,fH,fa,gY])=true:=Zl;obtain ⟨gh,aaG,f5⟩:=ln Am (df WJ WJ) dF.ag;obtain ⟨gR,Ru,f6⟩:=ln (nN gh aaG).2 (df Zi (nN gh aaG).1) dF.ag;obtain ⟨gQ,aaH,f7⟩:=ln vX (df WK WK) dF.ag;obtain ⟨jd,y7,f8⟩:=ln (tr gQ aaH).2 (df Zj (tr gQ aaH).1) dF.ag;obtain ⟨e1,ei,fG,iB,rfl,alb,_⟩:=Ru.cells;obtain ⟨cL,cS,ds,gw,rfl,ale,_⟩:=y7.cells;have kc:bW [.bool false,.af,.bool false,.af,.bool false,.af,.bool false,.af] [(0,4,.agg [e1,ei,fG,iB]),(4,4,.agg [cL,cS,ds,gw])]=some (.agg [e1,ei,fG,iB,cL,cS,ds,gw]):=rfl;obtain ⟨t3,aj,f9,dc,k6,g9,k7⟩:=EB (cs:=[.bool false,.af,.bool false,.af,.bool false,.af,.bool false,.af]) (t:=47) (r:=some []) dF;obtain ⟨t4,f10,dw,ly,h4,o0⟩:=dc.qJ (r:=some (cp.cc (.ptr t2.n 0))) (w:=some (cp.cc (.ptr t2.n 0))) (l:=[e1,ei,fG,iB,cL,cS,ds,gw]) (z:=8) k6 rfl rfl (dB (j8 alb ale));have hB:=s4.hi;have j0:=cm.hi;have ah5:=(s4.a1 g9 (by simp)).a1 h4 (by simp;omega);have ats:=(cm.a1 g9 (by simp)).a1 h4 (by simp;omega);have K7:cl s t4 49 16 x bs.length cs:=(((aE.a1 e6 (λ_ _=>by simp)).a1 fo (λ_ _=>by simp)).a1 g9 (λ_ _=>by simp)).a1 h4 (λb Y h=>by have:=(aE.lo Y).2;simp at h;omega);obtain ⟨aeo,apH,ai6⟩:=gW.qi D D;obtain ⟨aep,okB,ai7⟩:=fE.qi D D;obtain ⟨aeq,apI,ai8⟩:=Ru.qi D D
    obtain ⟨aer,apJ,ai9⟩:=y7.qi D D;have mg:sW (aeo,aep,aeq,aer) [b1,cq,cV,dn,bb,bU,cP,c7,e1,ei,fG,iB,cL,cS,ds,gw]:=⟨_,_,_,_,_,_,_,_,_,_,_,_,_,_,_,_,rfl,ai6,ai7,ai8,ai9⟩;have Fz:bW [.bool false,.af,.bool false,.af,.bool false,.af,.bool false,.af,.bool false,.af,.bool false,.af,.bool false,.af,.bool false,.af] [(0,8,.agg [b1,cq,cV,dn,bb,bU,cP,c7]),(8,8,.agg [e1,ei,fG,iB,cL,cS,ds,gw])]=
     some (.agg [b1,cq,cV,dn,bb,bU,cP,c7,e1,ei,fG,iB,cL,cS,ds,gw]):=rfl
    have Ae:bW (cC 1 [.bool false,.af,.bool false,.af,.bool false,.af,.bool false,.af,.bool false,.af,.bool false,.af,.bool false,.af,.bool false,.af]) [(0,16,.agg [b1,cq,cV,dn,bb,bU,cP,c7,e1,ei,fG,iB,cL,cS,ds,gw])]=
     some (.agg [b1,cq,cV,dn,bb,bU,cP,c7,e1,ei,fG,iB,cL,cS,ds,gw]):=rfl
    obtain ⟨x',t5,f11,ho,xJ,p9,mK⟩:=BX (te:=qR) ly K7 Ae rfl (dB mg.atoms.1) rfl aS (by rw[show qR.bytes=256 from rfl];omega);simp (disch:=omega) only[AB,st,bg,bT,ad.len,f1];rw[f2];simp (disch:=omega) only[st,bg,bT,f3];rw[f4];simp (disch:=omega) only[st,e2,du,s4.Mf,cm.Mf,f5,f6,f7,f8,kc,f9,f10];refine asT (pg (bO:=[_,_,_,_,_,_,_,_,_,_,_,_,_,_,_,_,_,_]) (b:=t2.n) 18 rfl aS (by repeat' first|exact trivial|apply iE.eY)) ?_;simp (disch:=omega) only[st,ah5.Mf,dw.Mf,Fz];rw[f11];refine cR (k - 1) _ _ D ⟨i+1,x',bs++([(aeo,aep,aeq,aer)]:List hq),_,rfl,xJ,by rw[hZ];exact ho,Y.app (hr.one mg),λb Y=>?_,by rw[hZ];simp;omega,D,D⟩;rcases mB.1 Y with Y|Y
    exact cK b Y;rw[iu]at Y;subst Y;exact ⟨apH,okB,apI,apJ⟩
   ·simp (disch:=omega) only[AB,st,bg,bT,ad.len];exact done
  ·simp (disch:=omega) only[AB,st,bg,bT,ad.len];exact done) D
theorem dN.acP{ao s:S}{b t:Nat}{bw:Bool}{b1 cq cV dn bb bU cP c7 cy cm dc dw d1 d2 d3 d4:V}(h:dN ao s b [b1,cq,cV,dn,bb,bU,cP,c7,cy,cm,dc,dw,d1,d2,d3,d4] t bw):
  bf 4 s (.ptr b 0)=some (.agg [b1,cq,cV,dn])∧bf 4 s (.ptr b 4)=some (.agg [bb,bU,cP,c7])∧bf 4 s (.ptr b 8)=some (.agg [cy,cm,dc,dw])∧bf 4 s (.ptr b 12)=some (.agg [d1,d2,d3,d4])∧
  bf 8 s (.ptr b 0)=some (.agg [b1,cq,cV,dn,bb,bU,cP,c7])∧bf 8 s (.ptr b 8)=some (.agg [cy,cm,dc,dw,d1,d2,d3,d4]):=
 ⟨kN h.rd (by simp),kN h.rd (by simp),kN h.rd (by simp),kN h.rd (by simp),kN h.rd (by simp),kN h.rd (by simp)⟩
theorem dN.gL{ao s:S}{b t:Nat}{bw:Bool}{x y z d e:V}(h:dN ao s b [x,y,z,d,e] t bw):
  cZ s (.ptr b 0)=some x∧cZ s (.ptr b 1)=some y∧cZ s (.ptr b 2)=some z∧cZ s (.ptr b 3)=some d∧cZ s (.ptr b 4)=some e∧bf 5 s (.ptr b 0)=some (.agg [x,y,z,d,e]):=
 ⟨nk h.rd (by simp),nk h.rd (by simp),nk h.rd (by simp),nk h.rd (by simp),nk h.rd (by simp),kN h.rd (by simp)⟩
theorem ajU(b:Nat):a6 0 (.ptr b 4)=some (.ptr b 4)∧a6 0 (.ptr b 8)=some (.ptr b 8)∧a6 4 (.ptr b 8)=some (.ptr b 12)∧a6 4 (.ptr b 4)=some (.ptr b 8):=⟨rfl,rfl,rfl,rfl⟩
theorem arn(x:Int):e8 x x=0:=by unfold e8;rw[if_neg D,if_neg D]
theorem o1.cmp{x:Int×Nat}(h:o1 x){a b:V}(av:jf x.1 x.2 a)(Y:jf x.1 x.2 b):km a9 78 [a,b] (.int .i64 0):=by
 have J:=h.2.1;have U:=h.2.2;have:=Xv av Y h.1.1 h.1.1 ⟨D,D⟩ ⟨D,D⟩
 rwa [arn]at this
theorem aiv{b:hq}{c bj:List V}(cK:b.ok)(aa:sW b c)(lM:sW b bj):km a9 48 [.agg c,.agg bj] (.bool true):=λs ae=>
 (VL (cv aS)).run 0 (by
  obtain ⟨dm,fg,fy,gH⟩:=cK;obtain ⟨b1,cq,cV,dn,bb,bU,cP,c7,cy,cm,dc,dw,d1,d2,d3,d4,rfl,J,U,aj,aH⟩:=aa;obtain ⟨WE,WG,BT,WH,fk,iv,w7,zK,s4,Xn,B5,JG,XP,XQ,XR,XS,rfl,iT,jW,z0,Fm⟩:=lM;show IU a9 0 (.agg [b1,cq,cV,dn,bb,bU,cP,c7,cy,cm,dc,dw,d1,d2,d3,d4]) (.agg [WE,WG,BT,WH,fk,iv,w7,zK,s4,Xn,B5,JG,XP,XQ,XR,XS]) s=_;unfold IU;simp only[cw];obtain ⟨s1,aC,aB,bk,e6,_⟩:=eL [b1,cq,cV,dn,bb,bU,cP,c7,cy,cm,dc,dw,d1,d2,d3,d4] 49 (Loc.refl ae);obtain ⟨s2,ba,aT,cn,fo,_⟩:=eL [WE,WG,BT,WH,fk,iv,w7,zK,s4,Xn,B5,JG,XP,XQ,XR,XS] 49 bk;have aow:=aB.a1 fo (by simp);have f1:=hh (aP:=false) (st:=false) (dm.cmp J iT) (df J.a2 iT.a2) cn.ag;have f2:=hh (aP:=false) (st:=false) (fg.cmp U jW) (df U.a2 jW.a2) cn.ag;have f3:=hh (aP:=false) (st:=false) (fy.cmp aj z0) (df aj.a2 z0.a2) cn.ag;have f4:=hh (aP:=false) (st:=false) (gH.cmp aH Fm) (df aH.a2 Fm.a2) cn.ag;simp (disch:=omega) only[st,bg,gm,gf,aC,ba,du,ajU,aow.acP,aT.acP,f1,f2,f3,f4];exact e7 rfl D cn.eK) D
def ng(l:List Int)(i:Nat):Bool:=decide (0<=l.getD i 0) && (decide (i=0) || decide (l.getD (i - 1) 0<l.getD i 0))
def rE(l:List Int):Bool:=(List.range l.length).all (ng l)
theorem RD{l:List Int}{i:Nat}(hi:i<l.length)(h:ng l i=false):rE l=false:=by
 unfold rE;rw[List.all_eq_false];exact ⟨i,Bn.2 hi,by rw[h];exact Bool.false_ne_true⟩
theorem Ge{l:List Int}{i:Nat}(h:(List.range i).all (ng l)=true)(h':ng l i=true):(List.range (i+1)).all (ng l)=true:=by
 rw[List.range_succ,Bx,h,gS,pM,h'];rfl
theorem aiA{v:V}{l:List Int}(ad:bV .i64 v l)(Z:l.length<=1000000000):km a9 86 [v] (.bool (rE l)):=λs ae=>
 (VX (cv aS)).run (l.length+1) (by
  show I6 a9 _ v s=_;unfold I6;simp only[cw];generalize eO:l.length+1=F;simp (disch:=omega) only[eI,st,bg,ad.len];refine jO (λr=>r=_) (λk vs t=> ∃i:Nat,vs=[.int .i64 i,.int .i64 (l.length:Int),v,v]∧s=t∧i+k=l.length∧(List.range i).all (ng l)=true) ?_ _ l.length _ _ ⟨0,rfl,rfl,D,rfl⟩ D;rintro a3 k _ _ ⟨i,rfl,rfl,hk,jJ⟩ cR;by_cases hi:i<l.length;by_cases J:l.getD i 0<0;simp (disch:=omega) only[eI,st,bg,ad.c1,hb,dZ];rw[e7 rfl D D,RD hi (by unfold ng;rw[e3 D];rfl)];by_cases aR:i=0;simp (disch:=omega) only[eI,st,bg,ad.c1,hb,dZ,bT];exact cR (k - 1) _ _ D ⟨i+1,rfl,rfl,D,Ge jJ (by unfold ng;rw[gi D,gi aR];rfl)⟩;have cA:((i:Int) - 1).toNat=i - 1:=D;by_cases U:l.getD i 0<=l.getD (i - 1) 0;simp (disch:=omega) only[eI,st,bg,ad.c1,hb,dZ,bT,cA];rw[e7 rfl D D,RD hi (by unfold ng;rw[e3 aR,e3 (show ¬l.getD (i - 1) 0<l.getD i 0 by omega)];simp)];simp (disch:=omega) only[eI,st,bg,ad.c1,hb,dZ,bT,cA];exact cR (k - 1) _ _ D ⟨i+1,rfl,rfl,D,Ge jJ (by unfold ng;rw[gi (show 0<=l.getD i 0 by omega),gi (show l.getD (i - 1) 0<l.getD i 0 by omega)];simp)⟩;have:i=l.length:=D;subst this;simp (disch:=omega) only[eI,st,bg];rw[e7 rfl D D];unfold rE;rw[jJ]) D
structure ev where
 host:Int
 c8:Int
 dH:Int
 parts:List Int
 boxes:List hq
def gU(p:ev)(r:V):Prop:= ∃d e cs,r=.agg [.int .i64 p.host,.int .i64 p.c8,.int .i64 p.dH,d,e]∧bV .i64 d p.parts∧dz 16 e p.boxes.length cs∧hr p.boxes cs
def ev.formed(p:ev):Bool:=decide (p.parts.length=p.boxes.length) && (decide (p.c8<=p.dH) && rE p.parts)
structure ev.ok(p:ev):Prop where
 host:ez p.host
 c8:ez p.c8
 dH:ez p.dH
 parts:∀x,x∈p.parts->ez x
 boxes:∀b,b∈p.boxes->b.ok
 iA:p.parts.length<=50000
 hW:p.boxes.length<=50000
theorem u9{h f t:Int}{d e:V}{l:List Int}{n:Nat}{cs:List V}(ai:bV .i64 d l)(he:dz 16 e n cs):([.int .i64 h,.int .i64 f,.int .i64 t,d,e]:List V).all atom=true:=by
 show (true && (true && (true && (atom d && (atom e && true)))))=true;rw[bV.atom ai,he.atom];rfl
theorem gU.a2{p:ev}{r:V}(h:gU p r):X.a2 r=true:=by
 obtain ⟨d,e,cs,rfl,ai,he,_⟩:=h;exact u9 ai he
theorem Xu{p:ev}{a:V}(av:gU p a)(al:p.ok):km a9 41 [a] (.bool p.formed):=λs ae=>
 (VB (cv aS)).run 0 (by
  obtain ⟨d,e,cs,rfl,ai,he,E⟩:=av;have K1:=al.iA;have p5:=al.hW;show II a9 0 (.agg [.int .i64 p.host,.int .i64 p.c8,.int .i64 p.dH,d,e]) s=_;unfold II;simp only[cw];obtain ⟨s1,aC,bb,bk,aB,ed⟩:=eL [.int .i64 p.host,.int .i64 p.c8,.int .i64 p.dH,d,e] 55 (Loc.refl ae);have f1:=hh (aP:=false) (st:=true) (aiA ai D) (fJ (bV.a2 ai)) bk.ag;unfold ev.formed;by_cases J:p.parts.length=p.boxes.length;by_cases U:p.c8<=p.dH;simp (disch:=omega) only[st,bg,gm,gf,aC,du,bb.gL,ai.len,he.len];rw[gi U];simp (disch:=omega) only[st,gm,f1];rw[e7 rfl D bk.eK,gi J];rfl;simp (disch:=omega) only[st,bg,gm,gf,aC,du,bb.gL,ai.len,he.len];rw[e3 U];simp (disch:=omega) only[st,gm];rw[e7 rfl D bk.eK,Bool.false_and,Bool.and_false];simp (disch:=omega) only[st,bg,gm,gf,aC,du,bb.gL,ai.len,he.len];rw[e7 rfl D bk.eK,e3 J];rfl) D
theorem RP{cs:List V}(s:S){n:Nat}(h:n<=cs.length):bf n s (.fu cs)=some (.agg (cs.take n)):=by
 have:=LM (cs:=cs) s (n:=0) (z:=n) D
 rwa [h5]at this
theorem Yd{cs:List V}{n:Nat}(h:n<=cs.length):a6 n (.fu cs)=some (.fu (cs.drop n)):=by
 have:Nat.ble n cs.length=true:=by rw[eu];exact h
 simp only[a6,uA,this]
theorem JB{bs:List hq}{cs:List V}(h:hr bs cs){i:Nat}(hi:i<bs.length):∃b b1 cq cV dn bb bU cP c7 cy cm dc dw d1 d2 d3 d4 q,bs[i]? =some b∧sW b [b1,cq,cV,dn,bb,bU,cP,c7,cy,cm,dc,dw,d1,d2,d3,d4]∧
  (∀s,bf 16 s (.fu (cs.drop (i*16)))=some (.agg [b1,cq,cV,dn,bb,bU,cP,c7,cy,cm,dc,dw,d1,d2,d3,d4]))∧a6 0 (.fu (cs.drop (i*16)))=some (.fu (cs.drop (i*16)))∧(∀s,bf 8 s (.fu (cs.drop (i*16)))=some (.agg [b1,cq,cV,dn,bb,bU,cP,c7]))∧
  a6 8 (.fu (cs.drop (i*16)))=some q∧ ∀s,bf 8 s q=some (.agg [cy,cm,dc,dw,d1,d2,d3,d4]):=by
 obtain ⟨b,J,U⟩:=h.at hi;have Z:=h.atoms.2;have ai:16<=(cs.drop (i*16)).length:=by rw[r2];omega
 have jW:=U;obtain ⟨b1,cq,cV,dn,bb,bU,cP,c7,cy,cm,dc,dw,d1,d2,d3,d4,he,_⟩:=U;rw[he]at jW;refine ⟨b,b1,cq,cV,dn,bb,bU,cP,c7,cy,cm,dc,dw,d1,d2,d3,d4,.fu ((cs.drop (i*16)).drop 8),J,jW,λs=>?_,?_,λs=>?_,Yd D,λs=>?_⟩;rw[RP s ai,he];rw[Yd D,h5];rw[RP s D];have:(cs.drop (i*16)).take 8=((cs.drop (i*16)).take 16).take 8:=by rw[Hi];congr 1
 rw[this,he];rfl;rw[RP s (by rw[r2];omega)];have:((cs.drop (i*16)).drop 8).take 8=((cs.drop (i*16)).take 16).drop 8:=by rw[List.drop_take]
 rw[this,he];rfl
theorem xY{α:Type}{l:List α}{i:Nat}{x:α}(h:l[i]? =some x):l.take (i+1)=l.take i++ [x]:=by
 rw[List.take_add_one,h];rfl
theorem Yh{a b c d:V}(av:bL a=true)(Y:bL b=true)(aa:bL c=true)(ai:bL d=true):bW [(.int .i64 0),(.int .i64 0),(.int .i64 0),.af,.af] [(0,1,a),(1,1,b),(2,1,c),(3,1,d)]=some (.agg [a,b,c,d,.af]):=by
 rw[rj av _ _ (by simp),rj Y _ _ (by simp),rj aa _ _ (by simp),rj ai _ _ (by simp)];rfl
theorem ac3{s t:S}{b t1:Nat}{bx:Bool}{yo:List V}{p:ev}{d x:V}{e:Nat}{cs:List V}(h:dN s t b yo t1 bx)(Z:Loc s t)(aR:s.ag=s.n)(aa:yo.length=5)(ai:bV .i64 d p.parts)(hx:cl s t e 16 x p.boxes.length cs)(E:hr p.boxes cs)(Y:b∉b4 x):
  eE s (gU p) (bZ (c6 t (ef 5 (.ptr b 0) (.agg [.int .i64 p.host,.int .i64 p.c8,.int .i64 p.dH,d,x]) (aN t))) λ_ t'=>bB s t' [bf 5 t' (.ptr b 0)]):=by
 obtain ⟨t',aC,bb,bk,aB,_⟩:=h.put (l:=[.int .i64 p.host,.int .i64 p.c8,.int .i64 p.dH,d,x]) (z:=5) Z rfl aa (by show (true && (true && (true && (bL d && (bL x && true)))))=true;rw[dz.bL ai,hx.bL];rfl);have h3:=hx.a1 aB (λc aa h=>Y (by simpa using (iu.1 h) ▸ aa));obtain ⟨x',bs,U,aj,rfl⟩:=h3.gl E.atoms.1;rw[aC,js,bb.gL.2.2.2.2.2];exact ⟨_,⟨d,x',cs,rfl,ai,aj,E⟩,E4 (.cons _ _ _ _ _ _ (.at _ rfl) (.cons _ _ _ _ _ _ (.at _ rfl) (.cons _ _ _ _ _ _ (.at _ rfl) (.cons _ _ _ _ _ _ (.at _ (bV.atom ai)) (.cons _ _ _ _ _ _ U .nil))))) aR bk (λc aa=>by simp only[hp,hd]at aa;exact (hx.lo aa).1)⟩
theorem aii{p:ev}{a:V}(av:gU p a)(p5:p.boxes.length<=50000):h6 a9 17 [a] (gU p):=λs ae=>
 (U7 (cv aS)).kQ (p.boxes.length+1) (by
  obtain ⟨d,e,cs,rfl,ai,he,E⟩:=av;show eE s _ (Ib a9 _ (.agg [.int .i64 p.host,.int .i64 p.c8,.int .i64 p.dH,d,e]) s);unfold Ib;simp only[cw];generalize eO:p.boxes.length+1=F;obtain ⟨s1,aC,bb,bk,aB,ed⟩:=eL [.int .i64 p.host,.int .i64 p.c8,.int .i64 p.dH,d,e] 55 (Loc.refl ae);obtain ⟨s2,ba,bU,cn,aT,gu⟩:=eL [.int .i64 0,.int .i64 0,.int .i64 0,.af,.af] 37 bk;have fk:=bb.a1 aT (by simp);have kc:=Yh (a:=.int .i64 p.host) (b:=.int .i64 p.c8) (c:=.int .i64 p.dH) (d:=d) rfl rfl rfl (dz.bL ai);obtain ⟨fB,cd,cP,dM,bp,k7⟩:=qx (cs:=[.int .i64 0,.int .i64 0,.int .i64 0,.af,.af]) (l:=[.int .i64 p.host,.int .i64 p.c8,.int .i64 p.dH,d,.af]) (t:=37) (z:=5) cn rfl rfl (by show (true && (true && (true && (bL d && (true && true)))))=true;rw[dz.bL ai];rfl);have yQ:=bb.hi;have FD:=bU.hi;simp (disch:=omega) only[cW,st,gf,aC,ba,du,fk.gL,kc];rw[cd];simp (disch:=omega) only[cW];refine jO (eE s _) (λk vs t=> ∃(i:Nat) (x:V) (vD:List V),vs=[.int .i64 i,.ptr s.n 0,.ptr s2.n 0,.ptr s1.n 0]∧Loc s t∧dN s t s.n [.int .i64 p.host,.int .i64 p.c8,.int .i64 p.dH,d,e] 55 false∧dN s t s2.n [.int .i64 p.host,.int .i64 p.c8,.int .i64 p.dH,d,x] 37 false∧
   dN s t s1.n [.int .i64 0,.int .i64 0,.int .i64 0,.af,.af] 37 false∧cl s t 49 16 x (p.boxes.take i).length vD∧(∀c,c∈b4 x->fB.n<=c)∧hr (p.boxes.take i) vD∧i+k=p.boxes.length) ?_ _ p.boxes.length _ _
   ⟨0,.af,[],rfl,dM,fk.a1 bp (by simp),cP,bU.a1 bp (by simp),.nil,(λc h=>by cases h),.nil,D⟩ D
  rintro a3 k _ t ⟨i,x,vD,rfl,b6,cL,cS,ds,aE,k3,yY,na⟩ cR;by_cases hi:i<p.boxes.length;obtain ⟨b,b1,cq,cV,dn,bb,bU,cP,c7,cy,cm,dc,dw,d1,d2,d3,d4,q,Y,mg,_,f1,f2,f3,f4⟩:=JB E hi;have hl:=he.c1 .i64 (i:=(i:Int)) D D;rw[dZ]at hl;have Fz:bW [.bool false,.af,.bool false,.af,.bool false,.af,.bool false,.af,.bool false,.af,.bool false,.af,.bool false,.af,.bool false,.af] [(0,8,.agg [b1,cq,cV,dn,bb,bU,cP,c7]),(8,8,.agg [cy,cm,dc,dw,d1,d2,d3,d4])]=
    some (.agg [b1,cq,cV,dn,bb,bU,cP,c7,cy,cm,dc,dw,d1,d2,d3,d4]):=rfl
  have Ae:bW (cC 1 [.bool false,.af,.bool false,.af,.bool false,.af,.bool false,.af,.bool false,.af,.bool false,.af,.bool false,.af,.bool false,.af]) [(0,16,.agg [b1,cq,cV,dn,bb,bU,cP,c7,cy,cm,dc,dw,d1,d2,d3,d4])]=
    some (.agg [b1,cq,cV,dn,bb,bU,cP,c7,cy,cm,dc,dw,d1,d2,d3,d4]):=rfl
  have y2:(p.boxes.take i).length=i:=by rw[kV];omega
  obtain ⟨x',t1,dj,dm,dR,e6,J⟩:=BX (te:=qR) (e:=49) b6 aE Ae rfl (dB mg.atoms.1) rfl aS (by rw[show qR.bytes=256 from rfl,y2];omega);have QW:=cS.hi;have AR:∀n,n<=s2.n->n∉b4 x:=λn a5 h=>by have:=k3 _ h;omega
  have Su:=cL.a1 e6 (AR _ D);have Sv:=cS.a1 e6 (AR _ D);have GH:=ds.a1 e6 (AR _ D);obtain ⟨t2,dL,Sw,dF,fo,_⟩:=Sv.u7 (j:=4) (x:=x') dR (by simp) dm.bL;have F6:∀c,c∈b4 x'->fB.n<=c:=λc aa=>(J c aa).elim (k3 c) (λh=>D);simp (disch:=omega) only[cW,st,bg,du,cL.gL,cS.gL,he.len,hl,f1,f2,f3,f4,Fz];rw[dj];simp (disch:=omega) only[st,du,dL,cW,bg,bT];refine cR (k - 1) _ _ D ⟨i+1,x',vD++ [b1,cq,cV,dn,bb,bU,cP,c7,cy,cm,dc,dw,d1,d2,d3,d4],rfl,dF,Su.a1 fo (by simp;omega),Sw,GH.a1 fo (by simp;omega),?_,F6,?_,D⟩;rw[xY Y,hZ];exact dm.a1 fo (λc aa h=>by have:=F6 c aa;simp at h;omega);rw[xY Y];exact yY.app (hr.one mg);rw[l2 D]at aE yY;simp (disch:=omega) only[cW,st,bg,du,cL.gL,cS.gL,he.len];exact ac3 ds b6 ae rfl ai aE yY (λh=>by have:=k3 _ h;omega)) D
theorem aia{p:ev}{a:V}(av:gU p a)(p5:p.boxes.length<=50000):h6 a9 12 [a] (gU p):=λs ae=>
 (afK (cv aS)).kQ (p.boxes.length+1) (by
  obtain ⟨d,e,cs,rfl,ai,he,E⟩:=av;show eE s _ (Ns a9 _ (.agg [.int .i64 p.host,.int .i64 p.c8,.int .i64 p.dH,d,e]) s);unfold Ns;simp only[cw];generalize eO:p.boxes.length+1=F;obtain ⟨s1,aC,bb,bk,aB,ed⟩:=eL [.int .i64 p.host,.int .i64 p.c8,.int .i64 p.dH,d,e] 37 (Loc.refl ae);obtain ⟨s2,ba,bU,cn,aT,gu⟩:=eL [.int .i64 0,.int .i64 0,.int .i64 0,.af,.af] 55 bk;have fk:=bb.a1 aT (by simp);have kc:=Yh (a:=.int .i64 p.host) (b:=.int .i64 p.c8) (c:=.int .i64 p.dH) (d:=d) rfl rfl rfl (dz.bL ai);obtain ⟨fB,cd,cP,dM,bp,k7⟩:=qx (cs:=[.int .i64 0,.int .i64 0,.int .i64 0,.af,.af]) (l:=[.int .i64 p.host,.int .i64 p.c8,.int .i64 p.dH,d,.af]) (t:=55) (z:=5) cn rfl rfl (by show (true && (true && (true && (bL d && (true && true)))))=true;rw[dz.bL ai];rfl);have yQ:=bb.hi;have FD:=bU.hi;simp (disch:=omega) only[cW,st,gf,aC,ba,du,fk.gL,kc];rw[cd];simp (disch:=omega) only[cW];refine jO (eE s _) (λk vs t=> ∃(i:Nat) (x:V) (vD:List V),vs=[.int .i64 i,.ptr s.n 0,.ptr s2.n 0,.ptr s1.n 0]∧Loc s t∧dN s t s.n [.int .i64 p.host,.int .i64 p.c8,.int .i64 p.dH,d,e] 37 false∧dN s t s2.n [.int .i64 p.host,.int .i64 p.c8,.int .i64 p.dH,d,x] 55 false∧
   dN s t s1.n [.int .i64 0,.int .i64 0,.int .i64 0,.af,.af] 55 false∧cl s t 108 16 x (p.boxes.take i).length vD∧(∀c,c∈b4 x->fB.n<=c)∧hr (p.boxes.take i) vD∧i+k=p.boxes.length) ?_ _ p.boxes.length _ _
   ⟨0,.af,[],rfl,dM,fk.a1 bp (by simp),cP,bU.a1 bp (by simp),.nil,(λc h=>by cases h),.nil,D⟩ D
  rintro a3 k _ t ⟨i,x,vD,rfl,b6,cL,cS,ds,aE,k3,yY,na⟩ cR;by_cases hi:i<p.boxes.length;obtain ⟨b,b1,cq,cV,dn,bb,bU,cP,c7,cy,cm,dc,dw,d1,d2,d3,d4,q,Y,mg,_,f1,f2,f3,f4⟩:=JB E hi;have hl:=he.c1 .i64 (i:=(i:Int)) D D;rw[dZ]at hl;have Fz:bW [.bool false,.af,.bool false,.af,.bool false,.af,.bool false,.af,.bool false,.af,.bool false,.af,.bool false,.af,.bool false,.af] [(0,8,.agg [b1,cq,cV,dn,bb,bU,cP,c7]),(8,8,.agg [cy,cm,dc,dw,d1,d2,d3,d4])]=
    some (.agg [b1,cq,cV,dn,bb,bU,cP,c7,cy,cm,dc,dw,d1,d2,d3,d4]):=rfl
  have Ae:bW (cC 1 [.bool false,.af,.bool false,.af,.bool false,.af,.bool false,.af,.bool false,.af,.bool false,.af,.bool false,.af,.bool false,.af]) [(0,16,.agg [b1,cq,cV,dn,bb,bU,cP,c7,cy,cm,dc,dw,d1,d2,d3,d4])]=
    some (.agg [b1,cq,cV,dn,bb,bU,cP,c7,cy,cm,dc,dw,d1,d2,d3,d4]):=rfl
  have y2:(p.boxes.take i).length=i:=by rw[kV];omega
  obtain ⟨x',t1,dj,dm,dR,e6,J⟩:=BX (te:=DM) (e:=108) b6 aE Ae rfl (dB mg.atoms.1) rfl aS (by rw[show DM.bytes=256 from rfl,y2];omega);have QW:=cS.hi;have AR:∀n,n<=s2.n->n∉b4 x:=λn a5 h=>by have:=k3 _ h;omega
  have Su:=cL.a1 e6 (AR _ D);have Sv:=cS.a1 e6 (AR _ D);have GH:=ds.a1 e6 (AR _ D);obtain ⟨t2,dL,Sw,dF,fo,_⟩:=Sv.u7 (j:=4) (x:=x') dR (by simp) dm.bL;have F6:∀c,c∈b4 x'->fB.n<=c:=λc aa=>(J c aa).elim (k3 c) (λh=>D);simp (disch:=omega) only[cW,st,bg,du,cL.gL,cS.gL,he.len,hl,f1,f2,f3,f4,Fz];rw[dj];simp (disch:=omega) only[st,du,dL,cW,bg,bT];refine cR (k - 1) _ _ D ⟨i+1,x',vD++ [b1,cq,cV,dn,bb,bU,cP,c7,cy,cm,dc,dw,d1,d2,d3,d4],rfl,dF,Su.a1 fo (by simp;omega),Sw,GH.a1 fo (by simp;omega),?_,F6,?_,D⟩;rw[xY Y,hZ];exact dm.a1 fo (λc aa h=>by have:=F6 c aa;simp at h;omega);rw[xY Y];exact yY.app (hr.one mg);rw[l2 D]at aE yY;simp (disch:=omega) only[cW,st,bg,du,cL.gL,cS.gL,he.len];exact ac3 ds b6 ae rfl ai aE yY (λh=>by have:=k3 _ h;omega)) D
theorem OQ{p:ev}{a:V}(av:gU p a)(K1:p.parts.length<=50000)(p5:p.boxes.length<=50000):km a9 18 [a] (.bool p.formed):=λs ae=>
 (af6 (cv aS)).run (p.parts.length+1) (by
  obtain ⟨d,e,cs,rfl,ai,he,E⟩:=av;show NO a9 _ (.agg [.int .i64 p.host,.int .i64 p.c8,.int .i64 p.dH,d,e]) s=_;unfold NO;simp only[cw];generalize eO:p.parts.length+1=F;obtain ⟨s1,aC,bb,bk,aB,ed⟩:=eL [.int .i64 p.host,.int .i64 p.c8,.int .i64 p.dH,d,e] 37 (Loc.refl ae);unfold ev.formed;by_cases J:p.parts.length=p.boxes.length;by_cases U:p.c8<=p.dH;rw[gi J,gi U];simp (disch:=omega) only[eI,st,bg,gm,gf,aC,du,bb.gL,ai.len,he.len];refine jO (λr=>r=_) (λk vs t=> ∃i:Nat,vs=[.int .i64 i,.ptr s.n 0]∧s1=t∧i+k=p.parts.length∧(List.range i).all (ng p.parts)=true) ?_ _ p.parts.length _ _ ⟨0,rfl,rfl,D,rfl⟩ D;rintro a3 k _ _ ⟨i,rfl,rfl,hk,jJ⟩ cR;by_cases hi:i<p.parts.length;have bad:∀ {x:Bool},ng p.parts i=false->bB s s1 [some (.bool false)]=some (.bool (true && (true && rE p.parts)),s):=λh=>by
   rw[e7 rfl D bk.eK,RD hi h];rfl
  by_cases J:p.parts.getD i 0<0;simp (disch:=omega) only[eI,st,bg,gm,du,bb.gL,ai.len,ai.c1,hb,dZ];exact bad (x:=true) (by unfold ng;rw[e3 D];rfl);by_cases aR:i=0;simp (disch:=omega) only[eI,st,bg,gm,du,bb.gL,ai.len,ai.c1,hb,dZ,bT];exact cR (k - 1) _ _ D ⟨i+1,rfl,rfl,D,Ge jJ (by unfold ng;rw[gi D,gi aR];rfl)⟩;have cA:((i:Int) - 1).toNat=i - 1:=D;by_cases U:p.parts.getD i 0<=p.parts.getD (i - 1) 0;simp (disch:=omega) only[eI,st,bg,gm,du,bb.gL,ai.len,ai.c1,hb,dZ,bT,cA];exact bad (x:=true) (by unfold ng;rw[e3 aR,e3 (show ¬p.parts.getD (i - 1) 0<p.parts.getD i 0 by omega)];simp);simp (disch:=omega) only[eI,st,bg,gm,du,bb.gL,ai.len,ai.c1,hb,dZ,bT,cA];exact cR (k - 1) _ _ D ⟨i+1,rfl,rfl,D,Ge jJ (by unfold ng;rw[gi (show 0<=p.parts.getD i 0 by omega),gi (show p.parts.getD (i - 1) 0<p.parts.getD i 0 by omega)];simp)⟩;have:i=p.parts.length:=D;subst this;simp (disch:=omega) only[eI,st,bg,gm,du,bb.gL,ai.len];rw[e7 rfl D bk.eK];unfold rE;rw[jJ];rfl;simp (disch:=omega) only[eI,st,bg,gm,gf,aC,du,bb.gL,ai.len,he.len];rw[e7 rfl D bk.eK,e3 U,Bool.false_and,Bool.and_false];simp (disch:=omega) only[eI,st,bg,gm,gf,aC,du,bb.gL,ai.len,he.len];rw[e7 rfl D bk.eK,e3 J];rfl) D
theorem aif{p:ev}{a a8:V}(av:gU p a)(jZ:gU p a8)(al:p.ok):km a9 16 [a,a8] (.bool true):=λs ae=>
 (U2 (cv aS)).run (p.boxes.length+1) (by
  have K1:=al.iA;have p5:=al.hW;obtain ⟨d,e,cs,rfl,ai,he,E⟩:=av;obtain ⟨bK,aZ,cs',rfl,eP,mi,oX⟩:=jZ;show H6 a9 _ (.agg [.int .i64 p.host,.int .i64 p.c8,.int .i64 p.dH,d,e]) (.agg [.int .i64 p.host,.int .i64 p.c8,.int .i64 p.dH,bK,aZ]) s=_;unfold H6;simp only[cw];generalize eO:p.boxes.length+1=F;obtain ⟨s1,aC,bb,bk,aB,ed⟩:=eL [.int .i64 p.host,.int .i64 p.c8,.int .i64 p.dH,d,e] 37 (Loc.refl ae);obtain ⟨s2,ba,bU,cn,aT,gu⟩:=eL [.int .i64 p.host,.int .i64 p.c8,.int .i64 p.dH,bK,aZ] 37 bk;have fk:=bb.a1 aT (by simp);have f1:=hh (aP:=false) (st:=true) (aiu ai eP D) (df (bV.a2 ai) (bV.a2 eP)) cn.ag;rw[gi rfl]at f1;simp (disch:=omega) only[eI,st,bg,gm,gf,aC,ba,du,fk.gL,bU.gL,f1,o8,j6,he.len,mi.len,ne_eq,not_true_eq_false,decide_false];refine jO (λr=>r=_) (λk vs t=> ∃i:Nat,vs=[.int .i64 i,.ptr s.n 0,.ptr s1.n 0]∧s2=t∧i+k=p.boxes.length) ?_ _ p.boxes.length _ _ ⟨0,rfl,rfl,D⟩ D;rintro a3 k _ _ ⟨i,rfl,rfl,hk⟩ cR;by_cases hi:i<p.boxes.length;obtain ⟨b,fA,gC,gx,g4,TC,aem,awb,awc,aen,av1,av2,av3,av4,av5,av6,av7,q,Y,mg,kH,dj,dL,eH,e0⟩:=JB E hi;obtain ⟨a4,gh,gQ,cD,jD,awm,awn,TE,TF,as7,awf,awg,awh,awi,awj,awk,awl,q',ft,CF,akk,uC,Pz,atO,Fa⟩:=JB oX hi;rw[Y]at ft;obtain rfl:=Option.some.inj ft;have hl:=he.c1 .i64 (i:=(i:Int)) D D;have KV:=mi.c1 .i64 (i:=(i:Int)) D D;rw[dZ]at hl KV;have f2:=hh (aP:=true) (st:=false) (aiv (al.boxes b (hR Y)) mg CF) (df mg.atoms.1 CF.atoms.1) cn.ag;simp (disch:=omega) only[eI,st,bg,gm,du,fk.gL,bU.gL,he.len,hl,KV,kH,akk,f2,o8,j6,bT];exact cR (k - 1) _ _ D ⟨i+1,rfl,rfl,D⟩;simp (disch:=omega) only[eI,st,bg,du,fk.gL,he.len];exact e7 rfl D cn.eK) D
theorem aiE{cz:bt}{aP st:Bool}{f:Nat}{args:List V}{ao s:S}{e:Nat}{P:List hq->Prop}(Z:Loc ao s)(av:args.all ep=true)(aa:∀s:S,s.ag=s.n->ud s e P (cz f args s))(hk:dT f=false:=by rfl):
  ∃bs cs,P bs∧hr bs cs∧ ∃v s',cJ cz aP st (.fn f [] []) args s=some (v,s')∧cl ao s' e 16 v bs.length cs∧Loc ao s'∧fX s s' []∧(∀b,b∈b4 v->s.n<=b):=by
 obtain ⟨bs,cs,al,E,h⟩:=aa (aN s) rfl;obtain ⟨v,s',J,U,aj,aH,bD,_⟩:=OU (hk:=hk) (aP:=aP) (st:=st) Z (gz.q8 _ av) (λb Y=>by cases Y) (λ_ _=>rfl) h E.atoms.2;exact ⟨bs,cs,al,E,v,s',J,U,aj,aH,bD⟩
theorem cl.box{ao s:S}{e l:Nat}{v:V}{cs:List V}(h:cl ao s e 16 v l cs)(k:IntKind){i:Int}(aR:0<=i)(J:i<l):∃b,v=.bx b 0 l l 16∧dW 16 v (.int k i)=some (.ptr b (i.toNat*16))∧bf 16 s (.ptr b (i.toNat*16))=some (.agg ((cs.drop (i.toNat*16)).take 16)):=by
 cases h with
 |nil=>omega
 |cc b l cs bw h Z=>exact ⟨b,rfl,by rw[px k aR J,gD],kN h.rd D⟩
theorem dN.Ds{ao s:S}{b t j:Nat}{bw:Bool}{cs:List V}{x:V}{r w:Reach}(h:dN ao s b cs t bw)(Z:Loc ao s)(aG:j<cs.length)(hx:bL x=true):
  ∃s',e9 r w s (ef 1 (.ptr b j) x (aN s))=some (.bad,s',⟨⟨r,w,s.n,s.n⟩,[]⟩)∧dN ao s' b (cs.set j x) t bw∧Loc ao s'∧fX s s' [b]∧s'.n=s.n:=by
 obtain ⟨s',aC,bb,bk,aB,ed⟩:=h.u7 Z aG hx;have hi:=h.hi;have hw:=MS (s:=aN s) h.get (j:=j) (l:=[x]) (by simp;omega) (by simp[hx]);rw[S5 hx,hw]at aC ⊢;refine ⟨s',?_,bb,bk,aB,ed⟩;simp only[c6,cU,c4,true_and]at aC;unfold e9;have b6:Nat.blt (min (aN s).ag b) s.n=true:=by rw[gy];simp only[aN];omega
 simp only[b6];rw[aC];rfl
theorem aqS{s t:S}{b t1:Nat}{bx:Bool}{yo:List V}{p:ev}{d x:V}{e aZ:Nat}{cs:List V}(h:dN s t b yo t1 bx)(Z:Loc s t)(aR:s.ag=s.n)(aa:yo.length=5)(ai:cl s t aZ 1 d p.parts.length (fp p.parts))(hx:cl s t e 16 x p.boxes.length cs)(E:hr p.boxes cs)(Y:b∉b4 x)(ft:b∉b4 d):
  eE s (gU p) (bZ (c6 t (ef 5 (.ptr b 0) (.agg [.int .i64 p.host,.int .i64 p.c8,.int .i64 p.dH,d,x]) (aN t))) λ_ t'=>bB s t' [bf 5 t' (.ptr b 0)]):=by
 obtain ⟨t',aC,bb,bk,aB,_⟩:=h.put (l:=[.int .i64 p.host,.int .i64 p.c8,.int .i64 p.dH,d,x]) (z:=5) Z rfl aa (by show (true && (true && (true && (bL d && (bL x && true)))))=true;rw[ai.bL,hx.bL];rfl);have h3:=hx.a1 aB (λc aa h=>Y (by simpa using (iu.1 h) ▸ aa));have eP:=ai.a1 aB (λc aa h=>ft (by simpa using (iu.1 h) ▸ aa));obtain ⟨x',bs,U,aj,rfl⟩:=h3.gl E.atoms.1;obtain ⟨bK,bs,aH,bD,rfl⟩:=eP.gl (lR _ _);rw[aC,js,bb.gL.2.2.2.2.2];exact ⟨_,⟨bK,x',cs,rfl,bD,aj,E⟩,E4 (.cons _ _ _ _ _ _ (.at _ rfl) (.cons _ _ _ _ _ _ (.at _ rfl) (.cons _ _ _ _ _ _ (.at _ rfl) (.cons _ _ _ _ _ _ aH (.cons _ _ _ _ _ _ U .nil))))) aR bk (λc aa=>by
  simp only[hp,hd]at aa;exact (mB.1 aa).elim (λh=>(ai.lo h).1) (λh=>(hx.lo h).1))⟩
theorem PC{l:List Int}{x:Int}{i:Nat}(h:i<l.length):(l++ [x]).getD i 0=l.getD i 0:=by simp[ir,vi h]
theorem YE{l:List Int}{x:Int} :(l++ [x]).getD l.length 0=x:=by simp[ir]
theorem anP{l:List Int}{x:Int}(h:rE l=true)(aR:0<=x)(hx:l.length=0∨l.getD (l.length - 1) 0<x):rE (l++ [x])=true:=by
 unfold rE at h ⊢;rw[hZ];refine Ge (l:=l++ [x]) (i:=l.length) ?_ ?_;rw[fj]at h ⊢;intro i hi;rw[<-h i hi];have fw:=Bn.1 hi;unfold ng;rw[PC fw,PC (i:=i - 1) D];unfold ng;rw[YE,gi aR];rcases hx with h|h
 rw[gi h];rfl;by_cases Z:l.length=0;rw[gi Z];rfl;rw[PC D,gi h];simp
structure ev.eQ(p:ev):Prop where
 host:0<=p.host∧p.host<=1000
 c8:0<=p.c8∧p.c8<=1000
 dH:0<=p.dH∧p.dH<=1000
 parts:∀x,x∈p.parts->0<=x∧x<=1000
 boxes:∀b,b∈p.boxes->b.eQ
 iA:p.parts.length<=4
 hW:p.boxes.length<=4
theorem ev.eQ.ok{p:ev}(h:p.eQ):p.ok:=by
 obtain ⟨J,U,aj,aH,bD,cF,dV⟩:=h;exact ⟨by unfold ez;omega,by unfold ez;omega,by unfold ez;omega,λx hx=>by have:=aH x hx;unfold ez;omega,λb Y=>(bD b Y).ok,D,D⟩
theorem B6{v:V}{l:List Int}(ad:bV .i64 v l)(yS:∀x,x∈l->ez x):h6 a9 7 [v] (λr=> ∃p:ev,gU p r∧p.eQ∧p.formed=true):=λs ae=>
 (agz (cv aS)).kQ 6 (by
  show eE s _ (N7 a9 _ v s);unfold N7;simp only[cw];generalize eO:6=F;have cV:∀i j:Int,([v,.int .i64 i,.int .i64 j]:List V).all a2=true:=λi j=>by simp only[gS,pM,ad.a2];rfl
  have JI:∀(i m:Int),0<=i->i<=100->0<m->m<=100->km a9 29 [v,.int .i64 i,.int .i64 m] (.int .i64 (pW l i m)):=λi m aR J U aj=>JF ad yS i m D D;obtain ⟨s1,aC,bb,bk,aB,ed⟩:=eL [.int .i64 0,.int .i64 0,.int .i64 0,.af,.af] 37 (Loc.refl ae);obtain ⟨cM,cs,⟨n6,sh⟩,QZ,DS,s2,ba,rO,cn,aT,dL⟩:=aiE (cz:=a9) (f:=39) (aP:=false) (st:=false) (args:=[v]) bk (by rw[gS,dz.ep ad];rfl) (air ad yS);have f1:=hh (aP:=false) (st:=true) (JI 0 6 D D D D) (cV _ _) cn.ag;have f2:=hh (aP:=false) (st:=true) (JI 1 20 D D D D) (cV _ _) cn.ag;have fQ:=zI (l:=l) (i:=0) (m:=6) D;have bM:=zI (l:=l) (i:=1) (m:=20) D;have jB:=zI (l:=l) (i:=2) (m:=9) D;obtain ⟨fB,cd,cP,dM,bp,k7⟩:=qx (cs:=[.int .i64 0,.int .i64 0,.int .i64 0,.af,.af]) (l:=[.int .i64 (pW l 0 6),.int .i64 (pW l 1 20),.int .i64 0,.af,.af]) (t:=37) (z:=5) cn rfl rfl rfl;have f3:=zP (JI 2 9 D D D D) (cV _ _) dM.ag;have kc:bW [.int .i64 0,.int .i64 0,.int .i64 0,.af,.af] [(0,1,.int .i64 (pW l 0 6)),(1,1,.int .i64 (pW l 1 20))]=some (.agg [.int .i64 (pW l 0 6),.int .i64 (pW l 1 20),.int .i64 0,.af,.af]):=rfl;generalize pW l 0 6=host at*;generalize pW l 1 20=c8 at*;generalize pW l 2 9=EU at*;obtain ⟨hF,f4,c7,eU,eh,o0⟩:=cP.Ds (j:=2) (x:=.int .i64 (c8+EU)) (r:=some (cp.cc (.ptr s2.n 2))) (w:=some (cp.cc (.ptr s2.n 2))) dM (by simp) rfl;have yQ:=bb.hi;have FE:=cP.hi;have uN:=aT.1;have kA:∀c,c∈b4 DS->s1.n<=c∧c<s2.n:=λc aa=>⟨dL c aa,(rO.lo aa).2⟩;simp (disch:=omega) only[cW,st,bg,e2,aC,ba,f1,f2,kc];rw[cd];simp (disch:=omega) only[cW,st,bg,e2,du,cP.gL,f3,bT,f4];refine lb (pg (bO:=[_,_,_,_,_,_]) (b:=s2.n) 6 rfl aS (by repeat' first|exact trivial|apply iE.eY)) ?_;simp (disch:=omega) only[cW];have abZ:cl s hF 49 16 DS cM.length cs:=(rO.a1 bp (λ_ _=>by simp)).a1 eh (λc aa h=>by have:=kA c aa;simp at h;omega);have fk:=((bb.a1 aT (by simp)).a1 bp (by simp)).a1 eh (by simp;omega);refine jO (eE s _) (λk vs t=> ∃(i:Nat) (u0:Int) (ps:List Int) (lF:V) (mV:V) (Cf:List V),vs=[.int .i64 u0,.int .i64 i,v,DS,.ptr s2.n 0,.ptr s.n 0]∧Loc s t∧cl s t 49 16 DS cM.length cs∧dN s t s.n [.int .i64 0,.int .i64 0,.int .i64 0,.af,.af] 37 false∧
   dN s t s2.n [.int .i64 host,.int .i64 c8,.int .i64 (c8+EU),lF,mV] 37 false∧cl s t 3 1 lF ps.length (fp ps)∧cl s t 49 16 mV i Cf∧(∀c,c∈b4 lF->hF.n<=c)∧(∀c,c∈b4 mV->hF.n<=c)∧(∀c,c∈b4 lF->c∉b4 mV)∧ps.length=i∧hr (cM.take i) Cf∧rE ps=true∧
   (∀x,x∈ps->0<=x∧x<=u0)∧(ps.length=0∧u0= -1∨0<ps.length∧u0=ps.getD (ps.length - 1) 0)∧ -1<=u0∧u0<=4*i∧i<=cM.length∧i<=4∧i+k=5) ?_ _ 5 _ _
   ⟨0, -1,[],.af,.af,[],rfl,eU,abZ,fk,c7,.nil,.nil,(λc h=>by cases h),(λc h=>by cases h),(λc h=>by cases h),rfl,.nil,rfl,(λc h=>by cases h),.inl ⟨rfl,rfl⟩,D,D,D,D,rfl⟩ D
  rintro a3 k _ t ⟨i,u0,ps,lF,mV,Cf,rfl,b6,L1,cL,ds,op,L6,rD,Ga,QU,gF,aam,ZR,oW,uP,auH,auI,ZP,KU,na⟩ cR;have stop:eE s (λr=> ∃p:ev,gU p r∧p.eQ∧p.formed=true) (bZ (c6 t (ef 5 (.ptr s.n 0) (.agg [.int .i64 host,.int .i64 c8,.int .i64 (c8+EU),lF,mV]) (aN t))) λ_ t'=>bB s t' [bf 5 t' (.ptr s.n 0)]):=by
   have y2:(cM.take i).length=i:=by rw[kV];omega
   obtain ⟨r,E,he⟩:=aqS (p:=⟨host,c8,c8+EU,ps,cM.take i⟩) (cs:=Cf) cL b6 ae rfl op (by simp only[y2];exact L6) aam (λh=>by have:=Ga _ h;omega) (λh=>by have:=rD _ h;omega);refine ⟨r,⟨_,E,⟨by simp only[];omega,by simp only[];omega,by simp only[];omega,λx hx=>by have:=oW x hx;omega,λb Y=>sh b (M0 Y),by simp only[];omega,by simp only[];omega⟩,?_⟩,he⟩;unfold ev.formed;simp only[y2,gF,ZR];rw[gi (show c8<=c8+EU by omega)];rfl
  by_cases J:i<cM.length;by_cases U:i<4;have auA:=eU.n;have amW:=ds.hi;have yY:=zI (l:=l) (i:=3+(i:Int)) (m:=3) D;have f5:=hh (aP:=false) (st:=false) (JI (3+(i:Int)) 3 D D D D) (cV _ _) b6.ag;generalize pW l (3+(i:Int)) 3=MC at*;have ame:bW (cC 1 [.int .i64 0]) [(0,1,.int .i64 (u0+1+MC))]=some (.agg [.int .i64 (u0+1+MC)]):=rfl;obtain ⟨zq,t1,dj,ab6,dR,e6,i1⟩:=BX (te:=g3) (e:=3) b6 op ame rfl rfl rfl aS (by rw[show g3.bytes=8 from rfl];omega);have K5:∀n,n<hF.n->n∉b4 lF:=λn a5 h=>by have:=rD _ h;omega
  have aac:∀n,n<hF.n->n∉b4 mV:=λn a5 h=>by have:=Ga _ h;omega
  have h8:∀n,s2.n<=n->n∉b4 DS:=λn a5 h=>by have:=kA _ h;omega
  have aqw:=ds.a1 e6 (K5 _ D);obtain ⟨t2,Pz,acG,dF,fo,_⟩:=aqw.u7 (j:=3) (x:=zq) dR (by simp) ab6.bL;have CZ:∀c,c∈b4 zq->hF.n<=c:=λc aa=>(i1 c aa).elim (rD c) (λh=>D);have ab0:cl s t2 49 16 DS cM.length cs:=(L1.a1 e6 (λc aa h=>by have:=kA c aa;have:=rD c h;omega)).a1 fo (λc aa h=>by have:=kA c aa;simp at h;omega);have ab7:=ab6.a1 fo (λc aa h=>by have:=CZ c aa;simp at h;omega);have ap9:cl s t2 49 16 mV i Cf:=(L6.a1 e6 (λc aa h=>QU c h aa)).a1 fo (λc aa h=>by have:=Ga c aa;simp at h;omega);have aqu:=(cL.a1 e6 (K5 _ D)).a1 fo (by simp;omega);obtain ⟨gd,at6,hl,kv⟩:=ab0.box .i64 (i:=(i:Int)) D D;rw[dZ]at hl kv;obtain ⟨b,xp,mg⟩:=QZ.at J;have CF:=mg;obtain ⟨b1,cq,BT,dn,cy,cm,dc,dw,d1,d2,d3,d4,de,ej,dy,jc,tj,_⟩:=mg;rw[tj]at CF kv;have Ae:bW (cC 1 [.bool false,.af,.bool false,.af,.bool false,.af,.bool false,.af,.bool false,.af,.bool false,.af,.bool false,.af,.bool false,.af]) [(0,16,.agg [b1,cq,BT,dn,cy,cm,dc,dw,d1,d2,d3,d4,de,ej,dy,jc])]=
   some (.agg [b1,cq,BT,dn,cy,cm,dc,dw,d1,d2,d3,d4,de,ej,dy,jc]):=rfl
  obtain ⟨wJ,t3,eH,ace,k6,g9,i3⟩:=BX (te:=qR) (e:=49) dF ap9 Ae rfl (dB CF.atoms.1) rfl aS (by rw[show qR.bytes=256 from rfl];omega);have aaE:∀c,c∈b4 wJ->hF.n<=c:=λc aa=>(i3 c aa).elim (Ga c) (λh=>by have:=e6.1;have:=fo.1;omega);have aqx:=acG.a1 g9 (aac _ D);obtain ⟨t4,e0,aqy,ly,h4,_⟩:=aqx.u7 (j:=4) (x:=wJ) k6 (by simp) ace.bL;have KW:=e6.1;have auy:=fo.1;simp (disch:=omega) only[cW,st,bg,abZ.len,L1.len,bT,f5,du,ds.gL];rw[dj];simp (disch:=omega) only[cW,st,bg,du,Pz,acG.gL,List.set,hl,kv];rw[eH];simp (disch:=omega) only[cW,st,bg,du,e0,bT];have apM:=(ab7.a1 g9 (λc aa h=>by
   rcases i1 c aa with h'|h'
   exact QU c h' h;have:=(L6.lo h).2;omega)).a1 h4 (λc aa h=>by have:=CZ c aa;simp at h;omega)
  have aqa:=ace.a1 h4 (λc aa h=>by have:=aaE c aa;simp at h;omega);have aqv:=(aqu.a1 g9 (aac _ D)).a1 h4 (by simp;omega);have apF:=(ab0.a1 g9 (λc aa h=>by have:=kA c aa;have:=Ga c h;omega)).a1 h4 (λc aa h=>by have:=kA c aa;simp at h;omega);refine cR (k - 1) _ _ D ⟨i+1,u0+1+MC,ps++ [u0+1+MC],zq,wJ,Cf++ [b1,cq,BT,dn,cy,cm,dc,dw,d1,d2,d3,d4,de,ej,dy,jc],rfl,ly,apF,aqv,aqy,by rw[hZ];simpa using apM,aqa,CZ,aaE,λc aa h=>?_,by rw[hZ];simp[gF],?_,?_,λx hx=>?_,.inr ⟨by simp,?_⟩,D,D,D,D,D⟩;rcases i3 c h with h'|h'
  rcases i1 c aa with Ku|Ku
  exact QU c Ku h';have:=(L6.lo h').2;omega;have:=(ab7.lo aa).2;omega;rw[xY xp];exact aam.app (hr.one CF);refine anP ZR D ?_;rcases uP with ⟨h,_⟩|⟨_,h⟩
  exact .inl h;exact .inr (by rw[<-h];omega);rcases mB.1 hx with hx|hx
  have:=oW x hx;omega;rw[iu]at hx;subst hx;omega;rw[hZ];show _=(ps++ [_]).getD ps.length 0;rw[YE];simp (disch:=omega) only[cW,st,bg,L1.len,ds.gL];exact stop;simp (disch:=omega) only[cW,st,bg,L1.len,ds.gL];exact stop) D
def wC(x:Int×Nat):Prop:=sX x.1 x.2∧x.1.natAbs<1000000000∧x.2<1000000000
def hq.ti(b:hq):Prop:=wC b.1∧wC b.2.1∧wC b.2.2.1∧wC b.2.2.2
theorem qi.ti{x:Int×Nat}(h:qi x):wC x:=⟨h.1,by have:=h.2.1;omega,by have:=h.2.2;omega⟩
theorem wC.o1{x:Int×Nat}(h:wC x):o1 x:=by
 obtain ⟨aR,J,U⟩:=h;have:=iZ (x:=x.1.natAbs) D;have:=iZ (x:=x.2) D;exact ⟨aR,D,D⟩
theorem hq.eQ.ti{b:hq}(h:b.eQ):b.ti:=⟨h.1.ti,h.2.1.ti,h.2.2.1.ti,h.2.2.2.ti⟩
theorem hq.ti.ok{b:hq}(h:b.ti):b.ok:=⟨h.1.o1,h.2.1.o1,h.2.2.1.o1,h.2.2.2.o1⟩
structure ev.ti(p:ev):Prop where
 host:ez p.host
 c8:ez p.c8
 dH:ez p.dH
 parts:∀x,x∈p.parts->ez x
 boxes:∀b,b∈p.boxes->b.ti
 iA:p.parts.length<=12
 hW:p.boxes.length<=12
theorem ev.ti.ok{p:ev}(h:p.ti):p.ok:=by
 obtain ⟨J,U,aj,aH,bD,cF,dV⟩:=h;exact ⟨J,U,aj,aH,λb Y=>(bD b Y).ok,D,D⟩
theorem ev.eQ.ti{p:ev}(h:p.eQ):p.ti:=by
 have h':=h.ok;obtain ⟨J,U,aj,aH,bD,cF,dV⟩:=h;exact ⟨h'.host,h'.c8,h'.dH,h'.parts,λb Y=>(bD b Y).ti,D,D⟩
def q9(N:Nat)(x:Int×Nat):Prop:=sX x.1 x.2∧x.1.natAbs<=N∧x.2<=N
def hq.er(N:Nat)(b:hq):Prop:=q9 N b.1∧q9 N b.2.1∧q9 N b.2.2.1∧q9 N b.2.2.2
structure ev.er(N K:Nat)(p:ev):Prop where
 host: -(N:Int)<=p.host∧p.host<=N
 c8: -(N:Int)<=p.c8∧p.c8<=N
 dH: -(N:Int)<=p.dH∧p.dH<=N
 parts:∀x,x∈p.parts->ez x
 boxes:∀b,b∈p.boxes->b.er N
 iA:p.parts.length<=K
 hW:p.boxes.length<=K
theorem q9.mono{N M:Nat}{x:Int×Nat}(h:q9 N x)(hm:N<=M):q9 M x:=⟨h.1,gb h.2.1 hm,gb h.2.2 hm⟩
theorem hq.er.mono{N M:Nat}{b:hq}(h:b.er N)(hm:N<=M):b.er M:=⟨h.1.mono hm,h.2.1.mono hm,h.2.2.1.mono hm,h.2.2.2.mono hm⟩
theorem ev.er.mono{N M K L:Nat}{p:ev}(h:p.er N K)(hm:N<=M)(hk:K<=L):p.er M L:=by
 obtain ⟨J,U,aj,aH,bD,cF,dV⟩:=h;exact ⟨D,D,D,aH,λb Y=>(bD b Y).mono hm,D,D⟩
theorem q9.ti{N:Nat}{x:Int×Nat}(h:q9 N x)(gE:N<1000000000):wC x:=⟨h.1,by have:=h.2.1;omega,by have:=h.2.2;omega⟩
theorem ev.er.ti{N K:Nat}{p:ev}(h:p.er N K)(gE:N<1000000000)(CD:K<=12):p.ti:=by
 obtain ⟨J,U,aj,aH,bD,cF,dV⟩:=h;exact ⟨by unfold ez;omega,by unfold ez;omega,by unfold ez;omega,aH,λb Y=>⟨(bD b Y).1.ti gE,(bD b Y).2.1.ti gE,(bD b Y).2.2.1.ti gE,(bD b Y).2.2.2.ti gE⟩,D,D⟩
theorem qi.er{x:Int×Nat}(h:qi x):q9 100000 x:=⟨h.1,h.2.1,by have:=h.2.2;omega⟩
theorem ev.eQ.er{p:ev}(h:p.eQ):p.er 100000 4:=by
 have h':=h.ok;obtain ⟨J,U,aj,aH,bD,cF,dV⟩:=h;exact ⟨D,D,D,h'.parts,λb Y=>⟨(bD b Y).1.er,(bD b Y).2.1.er,(bD b Y).2.2.1.er,(bD b Y).2.2.2.er⟩,D,D⟩
theorem aqT{s t:S}{b t1:Nat}{bx:Bool}{yo:List V}{p:ev}{d x:V}(h:dN s t b yo t1 bx)(Z:Loc s t)(aR:s.ag=s.n)(aa:yo.length=5)(ark:bL d=true)(lZ:bL x=true)
  (ai:∀t',fX t t' [b]-> ∃bK bs,pQ t' d bK bs∧bV .i64 bK p.parts∧ ∀c,c∈bs->s.n<=c)
  (hx:∀t',fX t t' [b]-> ∃x' bs cs,pQ t' x x' bs∧dz 16 x' p.boxes.length cs∧hr p.boxes cs∧ ∀c,c∈bs->s.n<=c):
  eE s (gU p) (bZ (c6 t (ef 5 (.ptr b 0) (.agg [.int .i64 p.host,.int .i64 p.c8,.int .i64 p.dH,d,x]) (aN t))) λ_ t'=>bB s t' [bf 5 t' (.ptr b 0)]):=by
 obtain ⟨t',aC,bb,bk,aB,_⟩:=h.put (l:=[.int .i64 p.host,.int .i64 p.c8,.int .i64 p.dH,d,x]) (z:=5) Z rfl aa (by show (true && (true && (true && (bL d && (bL x && true)))))=true;rw[ark,lZ];rfl);obtain ⟨bK,bs,aH,bD,cF⟩:=ai t' aB;obtain ⟨x',pY,cs,U,aj,dV,fL⟩:=hx t' aB;rw[aC,js,bb.gL.2.2.2.2.2];exact ⟨_,⟨bK,x',cs,rfl,bD,aj,dV⟩,E4 (.cons _ _ _ _ _ _ (.at _ rfl) (.cons _ _ _ _ _ _ (.at _ rfl) (.cons _ _ _ _ _ _ (.at _ rfl) (.cons _ _ _ _ _ _ aH (.cons _ _ _ _ _ _ U .nil))))) aR bk (λc aa=>by
  simp only[hp,hd]at aa;exact (mB.1 aa).elim (cF c) (fL c))⟩
theorem cl.E9{s t:S}{e b:Nat}{d:V}{l:List Int}(ai:cl s t e 1 d l.length (fp l))(Y:b∉b4 d):∀t',fX t t' [b]-> ∃bK bs,pQ t' d bK bs∧bV .i64 bK l∧ ∀c,c∈bs->s.n<=c:=λt' aB=>by
 have eP:=ai.a1 aB (λc aa h=>Y (by simpa using (iu.1 h) ▸ aa));obtain ⟨bK,bs,aH,bD,rfl⟩:=eP.gl (lR _ _);exact ⟨bK,_,aH,bD,λc aa=>(ai.lo aa).1⟩
theorem cl.Ka{s t:S}{e b:Nat}{x:V}{bs:List hq}{cs:List V}(hx:cl s t e 16 x bs.length cs)(E:hr bs cs)(Y:b∉b4 x):∀t',fX t t' [b]-> ∃x' gd cs,pQ t' x x' gd∧dz 16 x' bs.length cs∧hr bs cs∧ ∀c,c∈gd->s.n<=c:=λt' aB=>by
 have h3:=hx.a1 aB (λc aa h=>Y (by simpa using (iu.1 h) ▸ aa));obtain ⟨x',bs,aH,bD,rfl⟩:=h3.gl E.atoms.1;exact ⟨x',_,cs,aH,bD,E,λc aa=>(hx.lo aa).1⟩
theorem hr.take{bs:List hq}{cs:List V}(h:hr bs cs)(n:Nat):hr (bs.take n) (cs.take (n*16)):=by
 induction h generalizing n with
 |nil=>simp;exact .nil
 |cons b c bs cs h _ a3=>
  cases n with
  |zero=>simp;exact .nil
  |succ n=>
   rw[List.take_succ_cons,show (n+1)*16=c.length+n*16 by rw[h.atoms.2];omega,TN];exact .cons _ _ _ _ h (a3 n)
theorem hr.set{bs:List hq}{cs:List V}(h:hr bs cs){i:Nat}(hi:i<bs.length){x:Int×Nat}{fA gC gx g4:V}(hx:jf x.1 x.2 (.agg [fA,gC,gx,g4])):
  ∃b,bs[i]? =some b∧hr (bs.set i (b.1,b.2.1,x,b.2.2.2)) (gp cs (i*16+8) [fA,gC,gx,g4]):=by
 induction h generalizing i with
 |nil=>simp at hi
 |cons b c bs cs h ae a3=>
  have Z:=h.atoms.2;cases i with
  |zero=>
   obtain ⟨b1,cq,cV,dn,bb,bU,cP,c7,cy,cm,dc,dw,d1,d2,d3,d4,rfl,J,U,aj,aH⟩:=h;exact ⟨b,rfl,hr.cons _ [b1,cq,cV,dn,bb,bU,cP,c7,fA,gC,gx,g4,d1,d2,d3,d4] _ _ ⟨_,_,_,_,_,_,_,_,_,_,_,_,_,_,_,_,rfl,J,U,hx,aH⟩ ae⟩
  |succ i=>
   obtain ⟨a4,J,U⟩:=a3 (i:=i) (by simpa using hi);refine ⟨a4,by simpa using J,?_⟩;have:gp (c++cs) ((i+1)*16+8) [fA,gC,gx,g4]=c++gp cs (i*16+8) [fA,gC,gx,g4]:=by
    unfold gp;rw[show (i+1)*16+8=c.length+(i*16+8) by omega,TN,pL,M6,vl]
   rw[this,List.set_cons_succ];exact .cons _ _ _ _ h U
theorem dN.Sp{ao s:S}{b t j z:Nat}{bw:Bool}{cs l:List V}{r w:Reach}(h:dN ao s b cs t bw)(Z:Loc ao s)(aY:l.length=z)(aG:j+z<=cs.length)(hx:l.all bL=true):
  ∃s',e9 r w s (ef z (.ptr b j) (.agg l) (aN s))=some (.bad,s',⟨⟨r,w,s.n,s.n⟩,[]⟩)∧dN ao s' b (gp cs j l) t bw∧Loc ao s'∧fX s s' [b]∧s'.n=s.n:=by
 obtain ⟨s',aC,bb,bk,aB,ed⟩:=h.write Z (j:=j) (l:=l) D hx;have hi:=h.hi;have hw:=MS (s:=aN s) h.get (j:=j) (l:=l) D hx;have Y:Nat.beq l.length z=true:=by rw[qV];exact aY
 have jx:ef z (.ptr b j) (.agg l) (aN s)=some (.bad, { aN s with h:=(aN s).h.set b (.cells (gp cs j l) t bw true),ag:=min (aN s).ag b }):=by
  simp only[ef,eJ,Y,hw]
 have aC:=aC .bad;rw[hw]at aC;rw[jx];refine ⟨s',?_,bb,bk,aB,ed⟩;simp only[c6,cU,c4,true_and]at aC;unfold e9;have b6:Nat.blt (min (aN s).ag b) s.n=true:=by rw[gy];simp only[aN];omega
 simp only[b6];rw[aC];rfl
end Go.ah.X
