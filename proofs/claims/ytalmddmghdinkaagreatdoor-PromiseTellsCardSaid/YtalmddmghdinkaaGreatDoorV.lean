/-
  A part: lemmas; conditions: those that each names.
-/
import Derived.KernelRfl
import Derived.Test.YtalmddmghdinkaaGreatDoorU
set_option linter.all false
set_option linter.deprecated false
noncomputable section
namespace Go.ah.X
open Go Go.ah Go.Proofs.dI
theorem l6.q9{m n N:Nat}{r:V}(h:l6 m n r)(hm:m<=N)(a5:n<=N):∃x:Int×Nat,X.q9 N x∧jf x.1 x.2 r:=by
 obtain ⟨p,q,jX,m5,J,U⟩:=h;exact ⟨(p,q),⟨jX,by simp only[];omega,by simp only[];omega⟩,m5⟩
theorem cl.qG{ao s:S}{e z l:Nat}{v:V}{cs:List V}(h:cl ao s e z v l cs)(Z:0<l):∃b bw,v=.bx b 0 l l z∧dN ao s b cs e bw:=by
 cases h with
 |nil=>omega
 |cc b l cs bw h Z=>exact ⟨b,bw,rfl,h⟩
theorem adx{b l c z n:Nat}(h:n<=c):jn z (.bx b 0 l c z) none (some (.int .i64 n)) none=some (.bx b 0 n c z):=by
 have aC:bound (some (.int .i64 (n:Int))) c l=some n:=by rw[ur D D,dZ]
 have U:Nat.ble n c=true:=by rw[eu];exact h
 simp only[jn,show bound none c c=some c from rfl,aC,show bound none n 0=some 0 from rfl,U,Bq,zs,Nat.sub_zero]
theorem B8{p:ev}{a:V}{N K:Nat}(av:gU p a)(al:p.er N K)(YT:1000<=N)(gE:N<=100000000)(YY:1<=K)(CD:K<=11){n m:Int}(a5:ez n)(hm:ez m):h6 a9 8 [a,.int .i64 n,.int .i64 m] (λr=> ∃dA:ev,gU dA r∧dA.er (7*N) (K+1)):=λs ae=>
 (agI (cv aS)).kQ 0 (by
  obtain ⟨d,e,cs,rfl,ai,he,E⟩:=av;show eE s _ (Og a9 0 (.agg [.int .i64 p.host,.int .i64 p.c8,.int .i64 p.dH,d,e]) (.int .i64 n) (.int .i64 m) s);unfold Og;simp only[cw];have K1:=al.iA;have p5:=al.hW;have aur:=al.host;have b5:=al.c8;have ss:=al.dH;have cQ:=al.mono (M:=7*N) (L:=K+1) D D;obtain ⟨s1,aC,bb,bk,aB,ed⟩:=eL [.int .i64 p.host,.int .i64 p.c8,.int .i64 p.dH,d,e] 37 (Loc.refl ae);obtain ⟨s2,ba,bU,cn,aT,gu⟩:=eL [.int .i64 0,.int .i64 0,.int .i64 0,.af,.af] 37 bk;have ahs:=bb.a1 aT (by simp);obtain ⟨Hd,fB,cd,fy,dM,bp,eH⟩:=uq (e:=3) (z:=1) (len:=0) (l:=[]) (c:=cC 0 [.int .i64 0]) (ps:=[]) cn rfl rfl;obtain ⟨lF,hF,ff,gH,eU,eh,e0⟩:=Ju (te:=g3) dM fy ai (dB (lR _ _)) rfl aS (by rw[show g3.bytes=8 from rfl];omega);have yQ:=bb.hi;have FD:=bU.hi;have y6:∀c,c∈b4 lF->s2.n<=c:=λc aa=>(e0 c aa).elim (eH c) (λh=>by have:=bp.1;omega);have W5:=ahs.a1 bp (by simp);have aht:=W5.a1 eh (λh=>by have:=eH _ h;omega);have ahx:=(bU.a1 bp (by simp)).a1 eh (λh=>by have:=eH _ h;omega);obtain ⟨rT,h0,ahu,hy,eo,tI⟩:=aht.u7 (j:=3) (x:=lF) eU (by simp) gH.bL;have ho:=gH.a1 eo (λc aa h=>by have:=y6 c aa;simp at h;omega);have ahy:=ahx.a1 eo (by simp;omega);obtain ⟨fA,GP,jT,AT,nj,g2,rl⟩:=uq (e:=49) (z:=16) (len:=0) (l:=[]) (c:=cC 0 [.bool false,.af,.bool false,.af,.bool false,.af,.bool false,.af,.bool false,.af,.bool false,.af,.bool false,.af,.bool false,.af]) (ps:=[]) hy rfl rfl;obtain ⟨mV,adi,me,Dk,tE,jy,Fb⟩:=Ju (te:=qR) nj AT he (dB E.atoms.1) rfl aS (by rw[show qR.bytes=256 from rfl];omega);have au4:s2.n<=rT.n:=by have:=bp.1;have:=eh.1;have:=eo.1;omega
  have W6:=ahu.a1 g2 (by simp);have ahv:=W6.a1 jy (λh=>by have:=rl _ h;omega);have ahz:=(ahy.a1 g2 (by simp)).a1 jy (λh=>by have:=rl _ h;omega);obtain ⟨wA,ys,oL,il,oY,R4⟩:=ahv.u7 (j:=4) (x:=mV) tE (by simp) Dk.bL;have xC:∀c,c∈b4 mV->rT.n<=c:=λc aa=>(Fb c aa).elim (rl c) (λh=>by have:=g2.1;omega);have Ls:∀c,c∈b4 lF->c<rT.n:=λc aa=>(ho.lo aa).2;have kO:=Dk.a1 oY (λc aa h=>by have:=xC c aa;simp at h;omega);have kh:cl s wA 3 1 lF p.parts.length (fp p.parts):=by
   have:=((ho.a1 g2 (λ_ _=>by simp)).a1 jy (λc aa h=>by have:=rl c h;have:=Ls c aa;omega)).a1 oY (λc aa h=>by have:=y6 c aa;simp at h;omega);rw[gD,hp]at this;exact this
  rw[gD,hp]at kO;have Ex:=ahz.a1 oY (by simp;omega);have f1:=hh (aP:=false) (st:=false) (oN n 6 (by exact a5.1) (by exact a5.2) D D) (df rfl rfl) il.ag;have zO:∀j:Int,0<j->j<=1000->km a9 9 [.int .i64 m,.int .i64 j] (.int .i64 (oI m j)):=λj aR J=>oN m j (by exact hm.1) (by exact hm.2) D D;have au3:=sZ (n:=n) (m:=6) D;generalize oI n 6=w at*;have ey:s.n≠s1.n:=D;have stop:∀(t:S) (h f u:Int) (ps:List Int) (bs:List hq) (lF mV:V),Loc s t->dN s t s.n [.int .i64 h,.int .i64 f,.int .i64 u,lF,mV] 37 false->dN s t s1.n [.int .i64 0,.int .i64 0,.int .i64 0,.af,.af] 37 false->(-((7*N:Nat):Int)<=h∧h<=(7*N:Nat))->(-((7*N:Nat):Int)<=f∧f<=(7*N:Nat))->(-((7*N:Nat):Int)<=u∧u<=(7*N:Nat))->(∀x,x∈ps->ez x)->(∀b,b∈bs->b.er (7*N))->ps.length<=K+1->bs.length<=K+1->
    bL lF=true->bL mV=true->(∀t',fX t t' [s1.n]-> ∃bK gd,pQ t' lF bK gd∧bV .i64 bK ps∧ ∀c,c∈gd->s.n<=c)->(∀t',fX t t' [s1.n]-> ∃x' gd cs,pQ t' mV x' gd∧dz 16 x' bs.length cs∧hr bs cs∧ ∀c,c∈gd->s.n<=c)->
    eE s (λr=> ∃dA:ev,gU dA r∧dA.er (7*N) (K+1)) (aF (bf 5 t (.ptr s.n 0)) λTp=>bZ (c6 t (ef 5 (.ptr s1.n 0) Tp (aN t))) λ_ t'=>bB s t' [bf 5 t' (.ptr s1.n 0)]):=λt h f u ps bs lF mV Z cy cm fQ bM jB hL gL aqC aqD sp A1 al a7=>by
   obtain ⟨r,E,hx⟩:=aqT (p:=⟨h,f,u,ps,bs⟩) cm Z ae rfl sp A1 al a7;rw[cy.gL.2.2.2.2.2,w8];exact ⟨r,⟨_,E,⟨fQ,bM,jB,hL,gL,aqC,aqD⟩⟩,hx⟩
  have Lc:s1.n∉b4 lF:=λh=>by have:=y6 _ h;omega
  have Ar:s1.n∉b4 mV:=λh=>by have:=xC _ h;omega
  simp (disch:=omega) only[cW,st,gf,aC,ba,cd,du,W5.gL,ff,h0,jT,W6.gL,me,ys,f1];have dk:∀ {t:S} {h f u:Int} {t':S},fX wA t [s.n]->Loc s t->dN s t s.n [.int .i64 h,.int .i64 f,.int .i64 u,lF,mV] 37 false->(-((7*N:Nat):Int)<=h∧h<=(7*N:Nat))->(-((7*N:Nat):Int)<=f∧f<=(7*N:Nat))->(-((7*N:Nat):Int)<=u∧u<=(7*N:Nat))->
    eE s (λr=> ∃dA:ev,gU dA r∧dA.er (7*N) (K+1)) (aF (bf 5 t (.ptr s.n 0)) λTp=>bZ (c6 t (ef 5 (.ptr s1.n 0) Tp (aN t))) λ_ t'=>bB s t' [bf 5 t' (.ptr s1.n 0)]):=λ{t h f u _} hk Z Y fQ bM jB=>
   stop t h f u p.parts p.boxes lF mV Z Y (Ex.a1 hk (by simp;omega)) fQ bM jB cQ.parts cQ.boxes D D kh.bL kO.bL
    ((kh.a1 hk (λc aa h=>by have:=y6 c aa;simp at h;omega)).E9 Lc) ((kO.a1 hk (λc aa h=>by have:=xC c aa;simp at h;omega)).Ka E Ar)
  rcases (show w=0∨w=1∨w=2∨w=3∨w=4∨w=5 by omega) with h|h|h|h|h|h
  ·subst h;have f2:=zP (zO 4 D D) (df rfl rfl) il.ag;have nO:=sZ (n:=m) (m:=4) D;obtain ⟨rU,f3,oN,sx,nh,LW⟩:=oL.Ds (j:=2) (x:=.int .i64 (p.c8 - 1+oI m 4)) (r:=some (cp.cc (.ptr s.n 2))) (w:=some (cp.cc (.ptr s.n 2))) il (by simp) rfl;simp (disch:=omega) only[cW,st,bg,e2,du,oL.gL,f2,bT,f3];refine lb (pg (bO:=[_,_,_,_,_,_,_]) (b:=s.n) 7 rfl aS (by repeat' first|exact trivial|apply iE.eY)) ?_;exact dk (t':=rU) nh sx oN D D D
  ·subst h;by_cases gF:0<p.parts.length
   ·have f2:=zP (zO p.parts.length D D) (df rfl rfl) il.ag;have nO:=sZ (n:=m) (m:=p.parts.length) D;have f3:=zP (zO 9 D D) (df rfl rfl) il.ag;have tu:=sZ (n:=m) (m:=9) D;generalize oI m p.parts.length=i at*;generalize oI m 9=y at*;have hlen:=kh.len;obtain ⟨b,bw,rfl,Y⟩:=kh.qG gF;have z7:b<rT.n:=Ls b (by simp[b4]);have rp:s2.n<=b:=y6 b (by simp[b4]);obtain ⟨rU,f4,oN,sx,nh,LW⟩:=Y.Ds (j:=i.toNat) (x:=.int .i64 (y - 1)) (r:=some (cp.cc (.ptr b i.toNat))) (w:=some (cp.cc (.ptr b i.toNat))) il (by simp;omega) rfl;rw[<-q4]at oN;have hl:=px (b:=b) (o:=0) (l:=p.parts.length) (c:=p.parts.length) (mW:=1) (z:=1) .i64 (i:=i) D D;rw[gD,ox]at hl;simp (disch:=omega) only[cW,st,bg,e2,du,oL.gL,hlen,f2,f3,bT,hl,f4];refine lb (pg (bO:=[_,_,_,_,_,_,_,_,_,_,_]) (b:=b) 11 rfl aS (by repeat' first|exact trivial|apply iE.eY)) ?_;have ach:cl s rU 3 1 (.bx b 0 (p.parts.set i.toNat (y - 1)).length (p.parts.set i.toNat (y - 1)).length 1) (p.parts.set i.toNat (y - 1)).length (fp (p.parts.set i.toNat (y - 1))):=.cc b _ _ bw oN (by simp);rw[oC]at ach;refine stop rU p.host p.c8 p.dH (p.parts.set i.toNat (y - 1)) p.boxes _ mV sx (oL.a1 nh (by simp;omega)) (Ex.a1 nh (by simp;omega)) cQ.host cQ.c8 cQ.dH (λx hx=>?_) cQ.boxes (by rw[oC];omega) D rfl kO.bL
     ((by rw[oC];exact ach:cl s rU 3 1 (.bx b 0 p.parts.length p.parts.length 1) (p.parts.set i.toNat (y - 1)).length _).E9 Lc) ((kO.a1 nh (λc aa h=>by have:=xC c aa;simp at h;omega)).Ka E Ar)
    rcases M1 hx with h|rfl
    exact cQ.parts x h;unfold ez;omega
   simp (disch:=omega) only[cW,st,bg,du,oL.gL,kh.len];have h:=dk (t':=wA) ⟨cg _,λ_ _ _=>rfl⟩ il oL cQ.host cQ.c8 cQ.dH;rw[oL.gL.2.2.2.2.2,w8]at h;exact h
  ·subst h;have f2:=zP (zO 20 D D) (df rfl rfl) il.ag;have nO:=sZ (n:=m) (m:=20) D;generalize oI m 20=y at*;obtain ⟨gx,rU,auv,f3,Dl,sx,nh,atP⟩:=Xc (e:=3) (z:=1) (len:=1) (l:=[.int .i64 y]) (c:=cC 1 [.int .i64 0]) (ps:=[(0,1,.int .i64 y)]) (r:=some []) il rfl rfl;obtain ⟨zq,avK,w',aus,f4,abU,aoP,zb,akl,hw⟩:=ahm (te:=g3) (r:=some ([lF,gx].flatMap cp.cc)) (w:=some (cp.cc lF)) sx (kh.a1 nh (λ_ _=>by simp)) Dl rfl rfl aS (by rw[show g3.bytes=8 from rfl];omega);have auB:=nh.1;have auz:=zb.1;have CZ:∀c,c∈b4 zq->s2.n<=c:=λc aa=>(akl c aa).elim (y6 c) (λh=>by have:=oY.1;have:=jy.1;have:=g2.1;omega);have abQ:∀c,c<=s1.n->c∉b4 lF:=λc aa h=>by have:=y6 _ h;omega
   have ah6:=(oL.a1 nh (by simp)).a1 zb (abQ _ D);obtain ⟨adh,f5,ah7,aoQ,C7,avq⟩:=ah6.Ds (j:=3) (x:=zq) (r:=some (cp.cc (.ptr s.n 3))) (w:=some (cp.cc (.ptr s.n 3))) aoP (by simp) abU.bL;simp (disch:=omega) only[cW,st,bg,e2,du,oL.gL,f2,f3,f4,f5];have abV:=abU.a1 C7 (λc aa h=>by have:=CZ c aa;simp at h;omega);have dK:(p.parts++ [y]).length=p.parts.length+1:=by simp
   refine lb (zV [] 8 rfl ?_) ?_;refine ⟨⟨.inl rfl,λc h=>h⟩,⟨.inl rfl,λc h=>h⟩,⟨.inl rfl,λc h=>h⟩,⟨.inl rfl,λc h=>h⟩,⟨.inl rfl,λc h=>h⟩,⟨?_,λc h=>h⟩,⟨.inl rfl,λc h=>h⟩,⟨.inr ⟨_,rfl,λb _ h=>(by cases h),aS⟩,λc h=>h⟩,trivial⟩;rcases hw with rfl|⟨rfl,_⟩
   exact .inl rfl;exact .inr ⟨_,rfl,λb _ h=>(by cases h),aS⟩;refine stop adh p.host p.c8 p.dH (p.parts++ [y]) p.boxes zq mV aoQ ah7 (((Ex.a1 nh (by simp)).a1 zb (abQ _ D)).a1 C7 (by simp;omega)) cQ.host cQ.c8 cQ.dH (λx hx=>?_) cQ.boxes D D abV.bL kO.bL
    ((by rw[dK];simpa using abV:cl s adh 3 1 zq (p.parts++ [y]).length (fp (p.parts++ [y]))).E9 (λh=>by have:=CZ _ h;omega))
    ((((kO.a1 nh (λ_ _=>by simp)).a1 zb (λc aa h=>by have:=xC c aa;have:=Ls c h;omega)).a1 C7 (λc aa h=>by have:=xC c aa;simp at h;omega)).Ka E Ar)
   rcases mB.1 hx with h|h
   exact cQ.parts x h;rw[iu]at h;subst h;unfold ez;omega
  ·subst h;have hlen:=kO.len;obtain ⟨wJ,sr,y0,ry⟩:∃wJ,jn 16 mV none (some (.int .i64 ((p.boxes.length:Int) / 2))) none=some wJ∧bL wJ=true∧ ∀t,fX wA t [s.n]-> ∀t',fX t t' [s1.n]-> ∃x' gd cs,pQ t' wJ x' gd∧dz 16 x' (p.boxes.take (p.boxes.length / 2)).length cs∧hr (p.boxes.take (p.boxes.length / 2)) cs∧ ∀c,c∈gd->s.n<=c:=by
    by_cases Y:0<p.boxes.length;obtain ⟨b,bw,rfl,fE⟩:=kO.qG Y;have Ft:rT.n<=b:=xC b (by simp[b4]);refine ⟨_,by rw[show ((p.boxes.length:Int) / 2)=((p.boxes.length / 2:Nat):Int) by omega];exact adx D,rfl,λt lU t' LK=>?_⟩;have ku:=(fE.a1 lU (by simp;omega)).a1 LK (by simp;omega);have aan:=E.take (p.boxes.length / 2);have kb:=E.atoms.2;have y2:(p.boxes.take (p.boxes.length / 2)).length=p.boxes.length / 2:=by rw[kV];omega
    refine ⟨_,_,_,.bx b 0 (p.boxes.length / 2) p.boxes.length 16 cs (cs.take (p.boxes.length / 2*16)) _ bw true ku.get D D (by rw[h5]) aan.atoms.1,by rw[y2];exact .mk _ _ (by rw[kV];omega),aan,λc aa=>?_⟩;simp at aa;omega;have Fs:p.boxes=[]:=List.eq_nil_of_length_eq_zero D;have kb:=E.atoms.2;rw[Fs]at kO E kb ⊢;have:cs=[]:=List.eq_nil_of_length_eq_zero (by simpa using kb);subst this;cases kO with
    |nil=>exact ⟨.af,arx _ _,rfl,λt lU t' LK=>⟨.af,[],[],.at _ rfl,.nil,.nil,λc h=>by cases h⟩⟩
    |cc b _ _ bw h Z=>
     have Ft:rT.n<=b:=xC b (by simp[b4]);refine ⟨_,adx (n:=0) (by simp),rfl,λt lU t' LK=>?_⟩;have ku:=(h.a1 lU (by simp;omega)).a1 LK (by simp;omega);exact ⟨_,_,[],.bx b 0 0 0 16 [] [] _ bw true ku.get D (by simp) (by simp) rfl,.mk _ _ rfl,.nil,λc aa=>by simp at aa;omega⟩
   obtain ⟨rU,f3,oN,sx,nh,LW⟩:=oL.u7 (j:=4) (x:=wJ) il (by simp) y0;simp (disch:=omega) only[cW,st,bg,du,oL.gL,hlen,bT,sr,f3];exact stop rU p.host p.c8 p.dH p.parts (p.boxes.take (p.boxes.length / 2)) lF wJ sx oN (Ex.a1 nh (by simp;omega)) cQ.host cQ.c8 cQ.dH cQ.parts (λb Y=>cQ.boxes b (M0 Y)) D (by rw[kV];omega) kh.bL y0
    ((kh.a1 nh (λc aa h=>by have:=y6 c aa;simp at h;omega)).E9 Lc) (ry rU nh)
  ·subst h;by_cases n6:0<p.boxes.length
   ·have f2:=hh (aP:=false) (st:=true) (zO p.boxes.length D D) (df rfl rfl) il.ag;have nO:=sZ (n:=m) (m:=p.boxes.length) D;have f3:=zP (zO 5 D D) (df rfl rfl) il.ag;have tu:=sZ (n:=m) (m:=5) D;generalize oI m p.boxes.length=i at*;generalize oI m 5=y at*;have hlen:=kO.len;obtain ⟨b,bw,rfl,Y⟩:=kO.qG n6;have Ft:rT.n<=b:=xC b (by simp[b4]);obtain ⟨z,aY,f4⟩:=ln (Xq (p:=y) (q:=2) (by unfold ez;omega) (by unfold ez;omega)) (df rfl rfl) il.ag;obtain ⟨B,akZ,mg⟩:=E.at (i:=i.toNat) D;obtain ⟨de,ej,dy,jc,adZ,ad0,avX,u8,asC,asy,asz,asA,avU,avV,avW,u16,tj,cL,cS,ds,gw⟩:=mg;have kb:=E.atoms.2;have kv:bf 4 wA (.ptr b (i.toNat*16+8))=some (.agg [asC,asy,asz,asA]):=by
     rw[kN Y.rd D];have:(cs.drop (i.toNat*16+8)).take 4=(((cs.drop (i.toNat*16)).take 16).drop 8).take 4:=by rw[List.drop_take,vk,Hi];congr 1
     rw[this,tj];rfl
    have CU:=al.boxes B (hR akZ);obtain ⟨Mc,Sz,G9,lL,gR,jd⟩:=aY;have auP:=iZ (x:=B.2.2.1.1.natAbs) (by have:=CU.2.2.1.2.1;omega);have auQ:=iZ (x:=B.2.2.1.2) (by have:=CU.2.2.1.2.2;omega);have auR:=iZ (x:=Mc.natAbs) D;have auS:=iZ (x:=Sz) D;obtain ⟨w,hw,f5⟩:=ln (Xs ds lL CU.2.2.1.1.1 G9.1 ⟨D,D⟩ ⟨D,D⟩) (df ds.a2 lL.a2) il.ag;have i1:B.2.2.1.1.natAbs*Sz<=N*2:=nA CU.2.2.1.2.1 D;have i2:Mc.natAbs*B.2.2.1.2<=5*N:=nA D CU.2.2.1.2.2;have i3:B.2.2.1.2*Sz<=N*2:=nA CU.2.2.1.2.2 D;obtain ⟨WD,alw,aiD⟩:=hw.q9 (N:=7*N) D D;obtain ⟨fV,fH,fa,gY,rfl,Lo,h2⟩:=hw.cells;obtain ⟨B',ku,nd⟩:=E.set (i:=i.toNat) D aiD;obtain ⟨rU,f6,oN,sx,nh,LW⟩:=Y.Sp (j:=i.toNat*16+8) (z:=4) (l:=[fV,fH,fa,gY]) (r:=some (cp.cc (.ptr b (i.toNat*16+8)))) (w:=some (cp.cc (.ptr b (i.toNat*16+8)))) il rfl D h2;have hl:=px (b:=b) (o:=0) (l:=p.boxes.length) (c:=p.boxes.length) (mW:=16) (z:=16) .i64 (i:=i) D D;rw[gD]at hl;have ama:a6 8 (.ptr b (i.toNat*16))=some (.ptr b (i.toNat*16+8)):=rfl;have al8:a6 0 (.ptr b (i.toNat*16+8))=some (.ptr b (i.toNat*16+8)):=rfl;simp (disch:=omega) only[cW,st,bg,e2,du,oL.gL,hlen,f2,hl,ama,al8,kv,f3,f4,f5,f6];refine lb (pg (bO:=[_,_,_,_,_,_,_,_,_,_,_,_,_,_,_,_,_]) (b:=b) 17 rfl aS (by repeat' first|exact trivial|apply iE.eY)) ?_;have Dl:cl s rU 49 16 (.bx b 0 p.boxes.length p.boxes.length 16) (p.boxes.set i.toNat (B'.1,B'.2.1,WD,B'.2.2.2)).length (gp cs (i.toNat*16+8) [fV,fH,fa,gY]):=by
     rw[oC];exact .cc b _ _ bw oN (by rw[nd.atoms.2,oC])
    have Q4:=cQ.boxes B' (hR ku);refine stop rU p.host p.c8 p.dH p.parts (p.boxes.set i.toNat (B'.1,B'.2.1,WD,B'.2.2.2)) lF _ sx (oL.a1 nh (by simp;omega)) (Ex.a1 nh (by simp;omega)) cQ.host cQ.c8 cQ.dH cQ.parts (λx hx=>?_) D (by rw[oC];omega) kh.bL rfl
     ((kh.a1 nh (λc aa h=>by have:=Ls c aa;simp at h;omega)).E9 Lc) (Dl.Ka nd Ar)
    rcases M1 hx with h|rfl
    exact cQ.boxes x h;exact ⟨Q4.1,Q4.2.1,alw,Q4.2.2.2⟩
   simp (disch:=omega) only[cW,st,bg,du,oL.gL,kO.len];have h:=dk (t':=wA) ⟨cg _,λ_ _ _=>rfl⟩ il oL cQ.host cQ.c8 cQ.dH;rw[oL.gL.2.2.2.2.2,w8]at h;exact h
  ·subst h;have f2:=zP (zO 5 D D) (df rfl rfl) il.ag;have nO:=sZ (n:=m) (m:=5) D;obtain ⟨rU,f3,oN,sx,nh,LW⟩:=oL.Ds (j:=1) (x:=.int .i64 (p.c8 - oI m 5)) (r:=some (cp.cc (.ptr s.n 1))) (w:=some (cp.cc (.ptr s.n 1))) il (by simp) rfl;simp (disch:=omega) only[cW,st,bg,e2,du,oL.gL,f2,bT,f3];refine lb (pg (bO:=[_,_,_,_,_,_]) (b:=s.n) 6 rfl aS (by repeat' first|exact trivial|apply iE.eY)) ?_;exact dk (t':=rU) nh sx oN D D D) D
theorem dN.putAt{ao s:S}{b t j z:Nat}{bw:Bool}{cs l:List V}(h:dN ao s b cs t bw)(Z:Loc ao s)(aY:l.length=z)(aG:j+z<=cs.length)(hx:l.all bL=true):
  ∃s',c6 s (ef z (.ptr b j) (.agg l) (aN s))=some (.bad,s')∧dN ao s' b (gp cs j l) t bw∧Loc ao s'∧fX s s' [b]∧s'.n=s.n:=by
 obtain ⟨s',aC,bb,bk,aB,ed⟩:=h.write Z (j:=j) (l:=l) D hx;have Y:Nat.beq l.length z=true:=by rw[qV];exact aY
 refine ⟨s',?_,bb,bk,aB,ed⟩;rw[<-aC .bad];simp only[ef,eJ,Y];rfl
def kZ(x:Rat)(r:V):Prop:=jf x.num x.den r
def o5(n:Nat)(x:Rat):Prop:=(aL x.num.natAbs).length<=n∧(aL x.den).length<=n
theorem o5.mono{n m:Nat}{x:Rat}(h:o5 n x)(hm:n<=m):o5 m x:=⟨gb h.1 hm,gb h.2 hm⟩
def AW(P:Int)(Q:Nat)(h:sX P Q):Rat:=⟨P,Q,by have:=h.1;omega,h.2⟩
theorem acU{p q:Int}{P:Int}{Q:Nat}(h:sX P Q)(a7:q≠0)(he:P*q=p*(Q:Int)):AW P Q h=(p:Rat) / (q:Rat):=by
 have J:AW P Q h=(P:Rat) / ((Q:Nat):Rat):=by
  have:=Rat.num_divInt_den (AW P Q h);rw[<-this,Rat.divInt_eq_div];rfl
 have hK:((Q:Nat):Rat)≠0:=by
  have:=h.1;intro e;have:(Q:Rat)=((0:Nat):Rat):=by rw[e];rfl
  rw[Rat.natCast_inj]at this;omega
 have kK:(q:Rat)≠0:=by
  intro e;have:(q:Rat)=((0:Int):Rat):=by rw[e];rfl
  rw[Rat.intCast_inj]at this;exact a7 this
 have mi:(P:Rat)*(q:Rat)=(p:Rat)*((Q:Nat):Rat):=by
  rw[<-q1,he,q1];rfl
 rw[J]
 grind
theorem pd.rt{p q:Int}{m n:Nat}{r:V}(h:pd p q m n r)(a7:q≠0):kZ ((p:Rat) / (q:Rat)) r∧((p:Rat) / (q:Rat)).num.natAbs<=m∧((p:Rat) / (q:Rat)).den<=n:=by
 obtain ⟨P,Q,J,U,aj,aH,bD⟩:=h;have e:=acU J a7 (bD a7);rw[<-e];exact ⟨U,aj,aH⟩
theorem kZ.a2{x:Rat}{r:V}(h:kZ x r):X.a2 r=true:=jf.a2 h
section
def aV(Q:ax->Prop)(a:ax):Prop:=Q a
theorem PA(Q:ax->Prop)(f:List V->S->ax)(c:(List V->S->ax)->ax):aV Q (aw f c)=aV Q (c f):=propext ⟨id,id⟩
inductive b2
 |cM (b:Nat) (cs:List V) (t:Nat)
 |ca (v:V) (e z l:Nat) (cs:List V)
 |ro (b:Nat) (cs:List V)
 |gl (b:Nat) (cs:List V) (e:Nat) (bw:Bool)
def b2.hf:b2->List Nat
 |.cM b _ _=> [b]
 |.ca v _ _ _ _=>b4 v
 |.ro _ _=> []
 |.gl b _ _ _=> [b]
def b2.ok(ao s:S):b2->Prop
 |.cM b cs t=>dN ao s b cs t false
 |.ca v e z l cs=>cl ao s e z v l cs
 |.ro b cs=>b<ao.n∧b<s.n∧kY s b cs
 |.gl b cs e bw=>ao.n<=b∧b<s.n∧s.h.get b=some (.cells cs e bw false)
def oE:List b2->Prop
 |[]=>True
 |x::L=>(∀y,y∈L-> ∀b,b∈x.hf->b∉y.hf)∧oE L
structure l4(s:S):Prop where
 n:3<=s.n
 kH:s.h.get 0=some X.kH
 dj:s.h.get 1=some X.dj
 dL:s.h.get 2=some X.dL
structure aX(ao s:S)(L:List b2):Prop where
 loc:Loc ao s
 ok:∀x,x∈L->x.ok ao s
 ju:oE L
 old:∀c,c<ao.n->s.h.get c=ao.h.get c
 n3:l4 ao
section
variable {ao s s':S}{x y:b2}{L cu:List b2}
theorem b2.ok.lo(h:x.ok ao s){b:Nat}(Y:b∈x.hf):ao.n<=b∧b<s.n:=by
 cases x with
 |cM c cs t=>simp only[b2.hf,iu]at Y;subst Y;exact ⟨dN.lo h,dN.hi h⟩
 |ca v e z l cs=>exact cl.lo h Y
 |ro b cs=>cases Y
 |gl c cs e bw=>simp only[b2.hf,iu]at Y;subst Y;exact ⟨h.1,h.2.1⟩
theorem b2.ok.a1{X:List Nat}(h:x.ok ao s)(hk:fX s s' X)(hx:∀b,b∈x.hf->b∉X)(g8:∀b,b∈X->ao.n<=b):x.ok ao s':=by
 cases x with
 |cM c cs t=>exact dN.a1 h hk (hx c (iu.2 rfl))
 |ca v e z l cs=>exact cl.a1 h hk hx
 |gl c cs e bw=>exact ⟨h.1,r0 h.2.1 hk.1,(hk.2 c h.2.1 (hx c (iu.2 rfl))).trans h.2.2⟩
 |ro b cs=>
  obtain ⟨aR,J,e,bw,own,au⟩:=h;exact ⟨aR,r0 J hk.1,e,bw,own,(hk.2 b J (λY=>by have:=g8 b Y;omega)).trans au⟩
theorem aX.nil(ae:s.ag=s.n)(au:l4 s):aX s s []:=⟨Loc.refl ae,λ_ h=>(by cases h),trivial,λ_ _=>rfl,au⟩
theorem aX.g(h:aX ao s L):l4 (aN s):=by
 have a5:=h.n3.n;exact ⟨gb a5 h.loc.n,(h.old 0 D).trans h.n3.kH,(h.old 1 D).trans h.n3.dj,(h.old 2 D).trans h.n3.dL⟩
theorem aX.L4{X:List Nat}(h:aX ao s L)(hk:fX s s' X)(g8:∀b,b∈X->ao.n<=b):∀c,c<ao.n->s'.h.get c=ao.h.get c:=λc aa=>by
 have:=h.loc.n;rw[hk.2 c D (λhx=>by have:=g8 c hx;omega),h.old c aa]
theorem aX.cons(h:aX ao s L)(Z:Loc ao s')(hk:fX s s' [])(hx:x.ok ao s')(Y:∀b,b∈x.hf->s.n<=b):aX ao s' (x::L):=by
 refine ⟨Z,λy aI=>?_,⟨λy aI b qB rq=>?_,h.ju⟩,h.L4 hk (λ_ h=>by cases h),h.n3⟩;rcases hc.1 aI with rfl|aI
 exact hx;exact (h.ok y aI).a1 hk (λ_ _=>by simp) (λ_ h=>by cases h);have:=((h.ok y aI).lo rq).2;have:=Y b qB;omega
inductive qu:List b2->b2->b2->List b2->Prop
 |here (x y:b2) (L:List b2):qu (x::L) x y (y::L)
 |there (z x y:b2) (L cu:List b2) (h:qu L x y cu):qu (z::L) x y (z::cu)
theorem qu.mem(u:qu L x y cu):x∈L:=by
 induction u with
 |here=>exact j5 ..
 |there z x y L cu _ a3=>exact lG _ a3
theorem aX.up(h:aX ao s L)(u:qu L x y cu)(Z:Loc ao s')(hk:fX s s' x.hf)(aI:y.ok ao s')(Y:∀b,b∈y.hf->b∈x.hf∨s.n<=b):aX ao s' cu:=by
 have g8:=λb (Y:b∈x.hf)=>((h.ok x u.mem).lo Y).1;have aE:=h.L4 hk g8;have au:=h.n3;obtain ⟨_,J,U,_,_⟩:=h;have key:(∀w,w∈cu->w.ok ao s')∧oE cu∧ ∀w,w∈cu-> ∀c,c∈w.hf->(∃w,w∈L∧c∈w.hf)∨s.n<=c:=by
  induction u with
  |here x y L=>
   refine ⟨λw hw=>?_,⟨λw hw b rq yH=>?_,U.2⟩,λw hw c aa=>?_⟩;rcases hc.1 hw with rfl|hw
   exact aI;exact (J w (lG _ hw)).a1 hk (λb yH qB=>U.1 w hw b qB yH) g8;rcases Y b rq with aj|aj
   exact U.1 w hw b aj yH;have:=((J w (lG _ hw)).lo yH).2;omega;rcases hc.1 hw with rfl|hw
   exact (Y c aa).imp (λh=>⟨x,j5 ..,h⟩) id;exact .inl ⟨w,lG _ hw,aa⟩
  |there z x y L cu u a3=>
   obtain ⟨aB,aT,bp⟩:=a3 hk aI Y g8 (λw hw=>J w (lG _ hw)) U.2;refine ⟨λw hw=>?_,⟨λw hw b Zt yH=>?_,aT⟩,λw hw c aa=>?_⟩;rcases hc.1 hw with rfl|hw
   exact (J w (j5 ..)).a1 hk (λb yH qB=>U.1 x u.mem b yH qB) g8;exact aB w hw;rcases bp w hw b yH with ⟨q,a7,Ft⟩|aj
   exact U.1 q a7 b Zt Ft;have:=((J z (j5 ..)).lo Zt).2;omega;rcases hc.1 hw with rfl|hw
   exact .inl ⟨w,j5 ..,aa⟩;exact (bp w hw c aa).imp (λ⟨q,a7,h⟩=>⟨q,lG _ a7,h⟩) id
 exact ⟨Z,key.1,key.2.1,aE,au⟩
theorem oE.sub(h:oE L)(ae:cu.Sublist L):oE cu:=by
 induction ae with
 |slnil=>exact h
 |cons a _ a3=>exact a3 h.2
 |cons_cons a ae a3=>exact ⟨λy aI=>h.1 y (ae.subset aI),a3 h.2⟩
theorem aX.sub(h:aX ao s L)(ae:cu.Sublist L):aX ao s cu:=⟨h.loc,λx hx=>h.ok x (ae.subset hx),h.ju.sub ae,h.old,h.n3⟩
inductive ji:List b2->b2->List b2->Prop
 |here (x:b2) (L:List b2):ji (x::L) x L
 |there (z x:b2) (L cu:List b2) (h:ji L x cu):ji (z::L) x (z::cu)
theorem ji.mem(u:ji L x cu):x∈L:=by
 induction u with
 |here=>exact j5 ..
 |there z x L cu _ a3=>exact lG _ a3
theorem ji.sub(u:ji L x cu):cu.Sublist L:=by
 induction u with
 |here x L=>exact M7 ..
 |there z x L cu _ a3=>exact a3.cons_cons _
theorem ji.ju(u:ji L x cu)(h:oE L):∀w,w∈cu-> ∀b,b∈w.hf->b∉x.hf:=by
 induction u with
 |here x L=>exact λw hw b Y hx=>h.1 w hw b hx Y
 |there z x L cu u a3=>
  intro w hw b Y hx;rcases hc.1 hw with rfl|hw
  exact h.1 x u.mem b Y hx;exact a3 h.2 w hw b Y hx
theorem aX.GJ(h:aX ao s L)(u:ji L x cu)(Z:Loc ao s')(hk:fX s s' x.hf):aX ao s' cu:=
 ⟨Z,λw hw=>(h.ok w (u.sub.subset hw)).a1 hk (u.ju h.ju w hw) (λb Y=>((h.ok x u.mem).lo Y).1),h.ju.sub u.sub,h.L4 hk (λb Y=>((h.ok x u.mem).lo Y).1),h.n3⟩
def fW(b:Bool):Prop:=b=true
theorem fW.of{b:Bool}(h:b=true):fW b:=h
theorem fW.le{m n:Nat}(h:fW (Nat.ble m n)):m<=n:=Br h
theorem fW.lt{m n:Nat}(h:fW (Nat.blt m n)):m<n:=Br h
theorem fW.eq{m n:Nat}(h:fW (Nat.beq m n)):m=n:=kj h
@[reducible] def jF(s:S):List b2->Prop
 |[]=>True
 |.cM b cs _::L=>((∀o,fW (Nat.blt o cs.length)->cZ s (.ptr b o)=some (cs.getD o .bad))∧ ∀o z,fW (Nat.ble (o+z) cs.length)->bf z s (.ptr b o)=some (.agg ((cs.drop o).take z)))∧jF s L
 |.ca _ _ _ _ _::L=>jF s L
 |.gl _ _ _ _::L=>jF s L
 |.ro b cs::L=>((∀o,fW (Nat.blt o cs.length)->cZ s (.ptr b o)=some (cs.getD o .bad))∧ ∀o z,fW (Nat.ble (o+z) cs.length)->bf z s (.ptr b o)=some (.agg ((cs.drop o).take z)))∧jF s L
theorem aX.bX(h:aX ao s L):jF s L:=by
 have J:=h.ok;clear h
 induction L with
 |nil=>trivial
 |cons x L a3=>
  have U:=a3 (λw hw=>J w (lG _ hw));cases x with
  |cM b cs t=>
   have Y:dN ao s b cs t false:=J _ (j5 ..);exact ⟨⟨λo aE=>nk Y.rd aE.lt,λo z aY=>kN Y.rd aY.le⟩,U⟩
  |ca v e z l cs=>exact U
  |gl b cs e bw=>exact U
  |ro b cs=>
   have Y:b<ao.n∧b<s.n∧kY s b cs:=J _ (j5 ..);exact ⟨⟨λo aE=>nk Y.2.2 aE.lt,λo z aY=>kN Y.2.2 aY.le⟩,U⟩
theorem aX.q7(h:aX ao s L){b:Nat}{cs:List V}(Y:b<ao.n)(E:kY ao b cs):aX ao s (.ro b cs::L):=by
 obtain ⟨e,bw,own,au⟩:=E;refine ⟨h.loc,λw hw=>?_,⟨λ_ _ _ h=>(by cases h),h.ju⟩,h.old,h.n3⟩;rcases hc.1 hw with rfl|hw
 exact ⟨Y,r0 Y h.loc.n,e,bw,own,(h.old b Y).trans au⟩;exact h.ok w hw
end
section
variable {ao s:S}{L cu:List b2}{Q:ax->Prop}
theorem cf{K:V->S->ax}{cs:List V}{t:Nat}(h:aX ao s L)(H:∀b s',aX ao s' (.cM b cs t::L)->jF s' (.cM b cs t::L)->aV Q (K (.ptr b 0) s')):aV Q (bZ (c6 s (gv cs t (aN s))) K):=by
 obtain ⟨s',aC,bb,bk,aB,_⟩:=eL cs t h.loc;rw[aC,js];have h':=h.cons (x:=.cM s.n cs t) bk aB bb (λb Y=>by simp only[b2.hf,iu]at Y;omega);exact H _ _ h' h'.bX
theorem mL{K:V->S->ct->ax}{cs:List V}{t:Nat}{r:Reach}(h:aX ao s L)(H:∀b s' lo,aX ao s' (.cM b cs t::L)->jF s' (.cM b cs t::L)->aV Q (K (.ptr b 0) s' (eM r lo (lo+1) []))):aV Q (dp (e9 r (some []) s (gv cs t (aN s))) K):=by
 obtain ⟨s',aC,bb,bk,aB,_⟩:=eL cs t h.loc;have ba:e9 r (some []) s (gv cs t (aN s))=some (.ptr s.n 0,s',eM r s.n (s.n+1) []):=by
  simp only[gv,c6,newObj,aN,cU,c4,true_and]at aC;simp only[e9,gv,newObj,aN,eM,aC,cU,c4,true_and];congr 3;split<;>rfl
 rw[ba,pX];have h':=h.cons (x:=.cM s.n cs t) bk aB bb (λb Y=>by simp only[b2.hf,iu]at Y;omega);exact H _ _ _ h' h'.bX
theorem c9{K:V->S->ax}{b t j z:Nat}{cs l:List V}(h:aX ao s L)(u:qu L (.cM b cs t) (.cM b (gp cs j l) t) cu)(H:∀s',aX ao s' cu->jF s' cu->aV Q (K .bad s'))
  (aY:l.length=z:=by rfl) (aa:j+z<=cs.length:=by exact Br rfl) (hx:l.all bL=true:=by rfl):aV Q (bZ (c6 s (ef z (.ptr b j) (.agg l) (aN s))) K):=by
 obtain ⟨s',aC,bb,bk,aB,_⟩:=dN.putAt (h.ok _ u.mem) h.loc aY aa hx;rw[aC,js];have h':=h.up u bk aB bb (λb Y=>.inl Y);exact H _ h' h'.bX
theorem p1{K:V->S->ax}{b t j:Nat}{cs:List V}{x:V}(h:aX ao s L)(u:qu L (.cM b cs t) (.cM b (cs.set j x) t) cu)(hx:bL x=true)(H:∀s',aX ao s' cu->jF s' cu->aV Q (K .bad s'))
  (aa:j<cs.length:=by exact Br rfl):aV Q (bZ (c6 s (ef 1 (.ptr b j) x (aN s))) K):=by
 obtain ⟨s',aC,bb,bk,aB,_⟩:=dN.u7 (h.ok _ u.mem) h.loc aa hx;rw[aC,js];have h':=h.up u bk aB bb (λb Y=>.inl Y);exact H _ h' h'.bX
theorem fN{K:V->S->ct->ax}{b t j z:Nat}{cs l:List V}{r w:Reach}(h:aX ao s L)(u:qu L (.cM b cs t) (.cM b (gp cs j l) t) cu)(H:∀s' lo,aX ao s' cu->jF s' cu->aV Q (K .bad s' ⟨⟨r,w,lo,lo⟩,[]⟩))
  (aY:l.length=z:=by rfl) (aa:j+z<=cs.length:=by exact Br rfl) (hx:l.all bL=true:=by rfl):aV Q (dp (e9 r w s (ef z (.ptr b j) (.agg l) (aN s))) K):=by
 obtain ⟨s',aC,bb,bk,aB,_⟩:=dN.Sp (r:=r) (w:=w) (h.ok _ u.mem) h.loc aY aa hx;rw[aC,pX];have h':=h.up u bk aB bb (λb Y=>.inl Y);exact H _ _ h' h'.bX
theorem Fi{K:V->S->ct->ax}{b t j:Nat}{cs:List V}{x:V}{r w:Reach}(h:aX ao s L)(u:qu L (.cM b cs t) (.cM b (cs.set j x) t) cu)(hx:bL x=true)(H:∀s' lo,aX ao s' cu->jF s' cu->aV Q (K .bad s' ⟨⟨r,w,lo,lo⟩,[]⟩))
  (aa:j<cs.length:=by exact Br rfl):aV Q (dp (e9 r w s (ef 1 (.ptr b j) x (aN s))) K):=by
 obtain ⟨s',aC,bb,bk,aB,_⟩:=dN.Ds (r:=r) (w:=w) (h.ok _ u.mem) h.loc aa hx;rw[aC,pX];have h':=h.up u bk aB bb (λb Y=>.inl Y);exact H _ _ h' h'.bX
def cI(f:Nat)(args:List V)(P:V->Prop):Prop:=(∀s:S,s.ag=s.n->l4 s-> ∃v,P v∧a9 f args s=some (v,s))∧args.all a2=true
theorem aiF{cz:bt}{aP st:Bool}{f:Nat}{args:List V}{s:S}{v:V}(h':cz f args (aN s)=some (v,aN s))(av:args.all a2=true)(ae:s.ag<=s.n):cJ cz aP st (.fn f [] []) args s=some (v,s):=by
 unfold cJ;rw[zJ av];simp only[hp,hd];rw[Co _ av];simp only[];have h':cz f args { s with ag:=s.n } =some (v,aN s):=h';rw[h'];have ai:qI aP st [] (Nat.ble s.n (aN s).ag)=true:=by
  have:Nat.ble s.n (aN s).ag=true:=by rw[eu];exact cg _
  rw[this];cases aP<;>cases st<;>rfl
 simp only[ai,least];simp only[aN];rw[ny ae]
theorem aiH{cz:bt}{f:Nat}{args:List V}{s:S}{v:V}(h':cz f args (aN s)=some (v,aN s))(av:args.all a2=true)(ae:s.ag<=s.n):et cz (.fn f [] []) args s=some (v,s,eM none s.n s.n []):=by
 unfold et;rw[zJ av];simp only[hp,hd];rw[Co _ av];simp only[];have h':cz f args { s with ag:=s.n } =some (v,aN s):=h';rw[h'];have:Nat.blt s.n s.n=false:=by cases h:Nat.blt s.n s.n with
  |false=>rfl
  |true=>rw[gy]at h;omega
 simp only[aN,this,least];rw[ny ae];rfl
theorem g7{K:V->S->ax}{aP st:Bool}{f:Nat}{args:List V}{P:V->Prop}(h:aX ao s L)(aa:cI f args P)(H:∀v,P v->aV Q (K v s)):aV Q (bZ (cJ a9 aP st (.fn f [] []) args s) K):=by
 obtain ⟨v,ad,e⟩:=aa.1 (aN s) rfl h.g;rw[aiF e aa.2 h.loc.ag,js];exact H v ad
theorem lq{K:V->S->ct->ax}{f:Nat}{args:List V}{P:V->Prop}(h:aX ao s L)(aa:cI f args P)(H:∀v,P v->aV Q (K v s (eM none s.n s.n []))):aV Q (dp (et a9 (.fn f [] []) args s) K):=by
 obtain ⟨v,ad,e⟩:=aa.1 (aN s) rfl h.g;rw[aiH e aa.2 h.loc.ag,pX];exact H v ad
def jh(P:V->V->V->V->Prop)(v:V):Prop:= ∃a b c d,v=.agg [a,b,c,d]∧P a b c d
def m3(P:Int->Prop)(v:V):Prop:= ∃n,v=.int .i64 n∧P n
def lj(P:Bool->Prop)(v:V):Prop:= ∃n,v=.bool n∧P n
theorem lp{K:V->S->ax}{aP st:Bool}{f:Nat}{args:List V}{P:V->V->V->V->Prop}(h:aX ao s L)(aa:cI f args (jh P))(H:∀a b c d,P a b c d->aV Q (K (.agg [a,b,c,d]) s)):aV Q (bZ (cJ a9 aP st (.fn f [] []) args s) K):=
 g7 h aa λv ⟨a,b,c,d,e,al⟩=>e ▸ H a b c d al
theorem eN{K:V->S->ct->ax}{f:Nat}{args:List V}{P:V->V->V->V->Prop}(h:aX ao s L)(aa:cI f args (jh P))(H:∀a b c d,P a b c d->aV Q (K (.agg [a,b,c,d]) s (eM none s.n s.n []))):aV Q (dp (et a9 (.fn f [] []) args s) K):=
 lq h aa λv ⟨a,b,c,d,e,al⟩=>e ▸ H a b c d al
theorem gr{K:V->S->ax}{aP st:Bool}{f:Nat}{args:List V}{P:Int->Prop}(h:aX ao s L)(aa:cI f args (m3 P))(H:∀n,P n->aV Q (K (.int .i64 n) s)):aV Q (bZ (cJ a9 aP st (.fn f [] []) args s) K):=
 g7 h aa λv ⟨n,e,al⟩=>e ▸ H n al
theorem akv{K:V->S->ct->ax}{f:Nat}{args:List V}{P:Int->Prop}(h:aX ao s L)(aa:cI f args (m3 P))(H:∀n,P n->aV Q (K (.int .i64 n) s (eM none s.n s.n []))):aV Q (dp (et a9 (.fn f [] []) args s) K):=
 lq h aa λv ⟨n,e,al⟩=>e ▸ H n al
theorem iI{K:V->S->ax}{aP st:Bool}{f:Nat}{args:List V}{P:Bool->Prop}(h:aX ao s L)(aa:cI f args (lj P))(H:∀n,P n->aV Q (K (.bool n) s)):aV Q (bZ (cJ a9 aP st (.fn f [] []) args s) K):=
 g7 h aa λv ⟨n,e,al⟩=>e ▸ H n al
theorem Kc{K:V->S->ct->ax}{f:Nat}{args:List V}{P:Bool->Prop}(h:aX ao s L)(aa:cI f args (lj P))(H:∀n,P n->aV Q (K (.bool n) s (eM none s.n s.n []))):aV Q (dp (et a9 (.fn f [] []) args s) K):=
 lq h aa λv ⟨n,e,al⟩=>e ▸ H n al
theorem dh{P:V->Prop}{v:V}(h:aX ao s L)(ae:ao.ag=ao.n)(av:a2 v=true)(al:P v):aV (eE ao P) (bB ao s [some v]):=⟨v,al,e7 av D h.loc.eK⟩
end
theorem bz.ee{O:bo}{G:aJ Func}{T:Types}{f:Nat}{F:Fn}(nK:bz O G T f F)(n:Nat){args:List V}{s:S}{P:V->Prop}(h:aV (eE s P) (F (mb O G T) n args s))(hw:s.ag<=s.n):∃v,P v∧mb O G T f args s=some (v,s):=nK.kQ n h hw
def sc(x:ct):Nat:=
 match x.z with
 |_::_=>2
 |[]=>match x.f.w with
  |none=>2
  |some (_::_)=>1
  |some []=>match x.f.t with
   |some []=>bif Nat.beq x.f.lo x.f.hi then 0 else 4
   |_=>4
def lX:List ct->List Nat
 |[]=> []
 |x::l=>sc x::lX l
def Cd(m:List Nat)(ws:List Nat):Bool:=ws.zipIdx.all λx=>match x.1 with
 |0=>true
 |4=>true
 |1=>ws.zipIdx.all λy=>Nat.beq y.1 0 || fixed m x.2 y.2
 |_=>false
def mZ(b:Bool):Prop:=b=true
theorem mZ.of{b:Bool}(h:b=true):mZ b:=h
theorem mR:lX []=[]∧(∀(n:Nat) (l:List ct),lX (eM (some []) n n []::l)=0::lX l)∧(∀(n:Nat) (l:List ct),lX (eM (some []) n (n+1) []::l)=4::lX l)∧(∀(lo hi:Nat) (l:List ct),lX (eM none lo hi []::l)=4::lX l)∧(∀(b:Nat) (bs:List Nat) (lo hi:Nat) (l:List ct),lX (eM (some (b::bs)) lo hi []::l)=4::lX l)∧
  (∀(t:Reach) (bs:List Nat) (b:Nat) (lo hi:Nat) (l:List ct),lX (⟨⟨t,some (b::bs),lo,hi⟩,[]⟩::l)=1::lX l):=by
 refine ⟨rfl,λn l=>?_,λn l=>?_,λ_ _ _=>rfl,λ_ _ _ _ _=>rfl,λ_ _ _ _ _ _=>rfl⟩;have:sc (eM (some []) n n [])=0:=by
  show (bif Nat.beq n n then 0 else 4)=0;rw[Nat.beq_refl];rfl
 rw[lX,this];have:sc (eM (some []) n (n+1) [])=4:=by
  show (bif Nat.beq n (n+1) then 0 else 4)=4;have Y:Nat.beq n (n+1)=false:=by
   cases Y:Nat.beq n (n+1) with
   |false=>rfl
   |true=>have:=kj Y;omega
  rw[Y];rfl
 rw[lX,this]
theorem adt:∀l:List ct,lX l=l.map sc
 |[]=>rfl
 |x::l=>by rw[lX,adt l];rfl
theorem JR{x:ct}(h:sc x≠2):x.z=[]∧ ∃bs,x.f.w=some bs:=by
 unfold sc at h;split at h;exact absurd rfl h;rename_i aY;split at h;exact absurd rfl h;rename_i hw;exact ⟨aY,_,hw⟩;rename_i hw;exact ⟨aY,_,hw⟩
theorem aiV{x y:ct}(h:sc y=0){bs:List Nat}(hw:x.f.w=some bs):x.f.lK y.f=false:=by
 have U:=JR (x:=y) D;unfold sc at h;rw[U.1]at h;simp only[]at h;split at h;cases h;cases h;rename_i pv;split at h;rename_i aO;have Z:Nat.beq y.f.lo y.f.hi=true:=by
  cases Y:Nat.beq y.f.lo y.f.hi with
  |true=>rfl
  |false=>rw[Y]at h;cases h
 have Z:=kj Z;unfold fM.lK;rw[hw,aO,pv];have bD:∀r:Reach,Reach.meets r (some [])=false:=λr=>by
  unfold Reach.meets;split<;>first|rfl|contradiction|(rename_i a b J U aj aH;cases aH;simp)
 rw[bD,vm,vm];rw[zu];intro b _ Y;simp only[dU,eu,gy]at Y;omega;cases h
theorem aea{m:List Nat}{l:List ct}{k:ax}(h:mZ (Cd m (lX l))):gZ (fe m l) k=k:=by
 refine MQ ?_;have h:Cd m (lX l)=true:=h;unfold Cd at h;rw[fj]at h;have hm:∀x i,(x,i)∈l.zipIdx->(sc x,i)∈(lX l).zipIdx:=λx i hx=>by
  rw[adt,nx];have:=DU hx;simp[this]
 have U:∀x,x∈l->sc x≠2:=λx hx he=>by
  obtain ⟨i,hi⟩:=sO hx;have:=h _ (hm x i (nx.2 hi));simp only[he]at this;cases this
 unfold fe;rw[dU];constructor;rw[fj];rintro ⟨x,i⟩ hx;have Lr:x∈l:=hR (DU hx);obtain ⟨aY,bs,hw⟩:=JR (U x Lr);cases bs with
 |nil=>simp only[hw]
 |cons b bs=>
  simp only[hw];have aa:sc x=1:=by unfold sc;rw[aY];simp only[hw]
  have aj:=h _ (hm x i hx);simp only[aa,fj]at aj;rw[fj];rintro ⟨y,j⟩ aI;have aH:=aj _ (hm y j aI);simp only[r1]at aH;rcases aH with aH|aH
  rw[aiV (kj aH) hw];rfl;simp only[aH,Bm]
 unfold zr;rw[dU];constructor;rw[fj];intro x hx;rw[(JR (U x hx)).1];rw[r1];left;rw[fj];intro x hx;obtain ⟨_,bs,hw⟩:=JR (U x hx);rw[hw];rfl
theorem fU:(∀(Q:ax->Prop) (f:List V->S->ax) (c:(List V->S->ax)->ax),aV Q (aw f c)=aV Q (c f))∧(∀(m:List Nat) (l:List ct) (k:ax),mZ (Cd m (lX l))->gZ (fe m l) k=k)∧
  (∀(t:Nat) (cs:List V) (s:S),jj t (.agg cs) s=gv cs t s)∧(∀(t:Nat) (k:IntKind) (n:Int) (s:S),jj t (.int k n) s=gv [.int k n] t s)∧(∀o b:Nat,a6 o (.ptr b 0)=some (.ptr b o))∧(∀o b i:Nat,a6 o (.ptr b i)=some (.ptr b (i+o)))∧
  (∀(v:V) (l:List V),List.getD (v::l) 0 V.bad=v)∧(∀(v:V) (l:List V) (n:Nat),List.getD (v::l) (n+1) V.bad=List.getD l n V.bad)∧
  (∀l:List V,List.drop 0 l=l)∧(∀(v:V) (l:List V) (n:Nat),List.drop (n+1) (v::l)=List.drop n l)∧(∀l:List V,List.take 0 l=[])∧(∀(v:V) (l:List V) (n:Nat),List.take (n+1) (v::l)=v::List.take n l)∧
  (∀cs:List V,bW cs []=some (.agg cs))∧(∀(cs l:List V) (o z:Nat) (r:List (Nat×Nat×V)),fW (Nat.beq l.length z)->fW (Nat.ble (o+z) cs.length)->bW cs ((o,z,.agg l)::r)=bW (gp cs o l) r)∧
  (∀(cs:List V) (o:Nat) (k:IntKind) (n:Int) (r:List (Nat×Nat×V)),fW (Nat.blt o cs.length)->bW cs ((o,1,.int k n)::r)=bW (cs.set o (.int k n)) r)∧(∀(cs:List V) (o:Nat) (n:Bool) (r:List (Nat×Nat×V)),fW (Nat.blt o cs.length)->bW cs ((o,1,.bool n)::r)=bW (cs.set o (.bool n)) r)∧
  (∀(cs:List V) (o:Nat) (x:V) (r:List (Nat×Nat×V)),bL x=true->fW (Nat.blt o cs.length)->bW cs ((o,1,x)::r)=bW (cs.set o x) r)∧
  (∀(cs l:List V) (o:Nat),gp cs o l=cs.take o++(l++cs.drop (o+l.length)))∧(∀(v:V) (l:List V),(v::l).length=l.length+1)∧([]:List V).length=0∧(∀l:List V,[]++l=l)∧(∀l:List V,l++ []=l)∧(∀(v:V) (l l':List V),(v::l)++l'=v::(l++l'))∧
  (∀b o:Nat,cp.cc (.ptr b o)=[b])∧(∀(k:IntKind) (n:Int),cp.cc (.int k n)=[])∧(∀l:List V,cp.cc (.fu l)=[0])∧(∀(l:List V) (n:Nat),cp.cc (.fs l n)=[0])∧cp.cc .af=[]∧(∀b o l k z:Nat,cp.cc (.bx b o l k z)=[b])∧
  (∀(x:V) (l:List V),List.flatMap cp.cc (x::l)=cp.cc x++List.flatMap cp.cc l)∧List.flatMap cp.cc []=[]∧(∀l:List Nat,[]++l=l)∧(∀(n:Nat) (l l':List Nat),(n::l)++l'=n::(l++l'))∧
  (∀n:Nat,n+0=n)∧(∀n:Nat,0+n=n)∧(∀(v x:V) (l:List V),(v::l).set 0 x=x::l)∧(∀(v x:V) (l:List V) (n:Nat),(v::l).set (n+1) x=v::l.set n x):=
 ⟨PA,λ_ _ _=>aea,gf,ahX,du,λ_ _ _=>rfl,λ_ _=>rfl,λ_ _ _=>rfl,λ_=>rfl,λ_ _ _=>rfl,λ_=>rfl,λ_ _ _=>rfl,uB,λcs l o z r h h'=>ajX cs o z h.eq h'.le r,λcs o k n r h=>rj rfl cs o h.lt r,λcs o n r h=>rj rfl cs o h.lt r,λcs o x r hx h=>rj hx cs o h.lt r,
  λ_ _ _=>rfl,λ_ _=>rfl,rfl,λ_=>rfl,hd,λ_ _ _=>rfl,λ_ _=>rfl,λ_ _=>rfl,λ_=>rfl,λ_ _=>rfl,rfl,λ_ _ _ _ _=>rfl,λ_ _=>rfl,rfl,λ_=>rfl,λ_ _ _=>rfl,zs,gD,λ_ _ _=>rfl,λ_ _ _ _=>rfl⟩
theorem kt{Q:ax->Prop}{a a8:ax}(h:aV Q a8)(e:∀R,aV R a8->aV R a:=by exact λ_ h=>by simp (disch:=first|omega|exact fW.of ib|exact mZ.of (by simp only[mR];decide+kernel)|assumption) only[fU,st,e2,bg,r];exact h):aV Q a:=e Q h
theorem gV{Q:ax->Prop}{a a8:ax}(h:aV Q a8)(e:∀R,aV R a8->aV R a:=by exact λ_ h=>by simp (disch:=first|omega|exact fW.of ib|exact mZ.of (by simp only[mR];decide+kernel)|assumption) only[fU,st,e2,bg,r,bC];exact h):aV Q a:=e Q h
end
end Go.ah.X
namespace Go.ah.X
theorem cj{p:Prop}(h:p:=by repeat first|exact .here _ _ _|apply qu.there):p:=h
theorem hG{p:Prop}(h:p:=by repeat first|exact .here _ _|apply ji.there):p:=h
theorem eB{p:Prop}(h:p:=by repeat first|exact .head _|apply List.Mem.tail):p:=h
theorem jq{p:Prop}(h:p:=by repeat first|exact List.Sublist.refl _|apply List.Sublist.cons_cons|apply List.Sublist.cons):p:=h
end Go.ah.X
namespace Go.ah.X
open Go Go.ah Go.Proofs.dI
section
def cH(n:Nat)(x:Rat)(a b c d:V):Prop:=kZ x (.agg [a,b,c,d])∧o5 n x
theorem cH.mono{n m:Nat}{x:Rat}{a b c d:V}(h:cH n x a b c d)(hm:n<=m):cH m x a b c d:=⟨h.1,h.2.mono hm⟩
theorem cH.atoms{n:Nat}{x:Rat}{a b c d:V}(h:cH n x a b c d):([a,b,c,d]:List V).all atom=true:=h.1.a2
theorem cH.bL{n:Nat}{x:Rat}{a b c d:V}(h:cH n x a b c d):([a,b,c,d]:List V).all bL=true:=dB h.atoms
theorem cH.A{n:Nat}{x:Rat}{a b c d:V}(h:cH n x a b c d):a2 (.agg [a,b,c,d])=true:=h.1.a2
theorem w5{n:Nat}{x:Rat}{a b c d:V}{l:List V}(h:cH n x a b c d)(Z:l.all X.bL=true):(a::b::c::d::l).all X.bL=true:=j8 h.bL Z
theorem uj{v:V}{l:List V}(h:bL v=true)(Z:l.all bL=true):(v::l).all bL=true:=by rw[gS,h,Z];rfl
theorem mJ{n:Nat}{x:Rat}{a b c d:V}{l:List V}(h:cH n x a b c d)(Z:l.all atom=true):(a::b::c::d::l).all atom=true:=j8 h.atoms Z
theorem R5{u k:Nat}(h:(aL u).length<=k):u<1000000000 ^ k:=by
 have J:=ou (gK u);rw[gq,B4]at J;have U:1000000000 ^ (aL u).length<=1000000000 ^ k:=Hp D h;omega
theorem apf{u v k:Nat}(h:(aL u).length<=k)(h':(aL v).length<=k):(aL (u+v)).length<=k+1:=by
 have J:=R5 h;have U:=R5 h';refine nm ?_;rw[Nat.pow_succ];omega
theorem rx(x:Rat):x=(x.num:Rat) / ((x.den:Nat):Rat):=by
 have:=Rat.num_divInt_den x;rw[Rat.divInt_eq_div]at this;exact this.symm
theorem sH(x:Rat):((x.den:Nat):Rat)≠0:=by
 intro e;have h:(x.den:Rat)=((0:Nat):Rat):=by rw[e];rfl
 rw[Rat.natCast_inj]at h;exact x.den_nz h
theorem tx(n:Nat):(((n:Nat):Int):Rat)=(n:Rat):=rfl
theorem pd.gw{p q:Int}{m n k:Nat}{r:V}(h:pd p q m n r)(a7:q≠0){x:Rat}(hx:(p:Rat) / (q:Rat)=x)(hm:(aL m).length<=k)(a5:(aL n).length<=k):jh (cH k x) r:=by
 obtain ⟨J,U,aj⟩:=h.rt a7;rw[hx]at J U aj;obtain ⟨d,e,rfl,ai,he⟩:=J;have:=oi U;have:=oi aj;exact ⟨_,_,_,_,rfl,⟨d,e,rfl,ai,he⟩,D,D⟩
theorem oq{f:Nat}{args:List V}{P eR:V->Prop}(h:h6 a9 f args P)(av:args.all a2=true)(al:∀v,P v->eR v):cI f args eR:=⟨λs ae _=>let ⟨v,J,U⟩:=h s ae;⟨v,al v J,U⟩,av⟩
theorem pC{f:Nat}{args:List V}{v:V}{P:V->Prop}(h:km a9 f args v)(av:args.all a2=true)(al:P v):cI f args P:=⟨λs ae _=>⟨v,al,h s ae⟩,av⟩
theorem Gv{q k:Nat}(h:(aL q).length<=k)(hk:1<=k):(aL (max 1 q)).length<=k:=by
 have J:=R5 h;refine nm ?_;have:1000000000 ^ 1<=1000000000 ^ k:=Hp D hk;omega
section
variable {n m:Nat}{x y:Rat}{a b c d a8 a4 bj bK:V}
theorem tZ(h:cH n x a b c d)(h':cH m y a8 a4 bj bK)(a5:n+m<=90000:=by omega):cI 33 [.agg [a,b,c,d],.agg [a8,a4,bj,bK]] (jh (cH (n+m+1) (x+y))):=by
 have hx:=x.den_pos;have aI:=y.den_pos;obtain ⟨dj,dL⟩:=h.2;obtain ⟨eH,e0⟩:=h'.2;refine oq (Xt h.1 h'.1 hx aI ⟨D,D⟩ ⟨D,D⟩) (df h.A h'.A) λv ad=>ad.gw ?_ ?_ (apf ?_ ?_) (Gv ?_ D)
 ·exact Int.mul_ne_zero D D
 ·rw[Rat.intCast_add,q1,q1,q1,tx,tx];have J:=sH x;have U:=sH y
  conv=>rhs;rw[rx x,rx y]
  grind
 have:=qd x.num.natAbs y.den;omega;have:=qd y.num.natAbs x.den;omega;have:=qd x.den y.den;omega
theorem yc(h:cH n x a b c d)(h':cH m y a8 a4 bj bK)(a5:n+m<=90000:=by omega):cI 83 [.agg [a,b,c,d],.agg [a8,a4,bj,bK]] (jh (cH (n+m+1) (x*y))):=by
 have hx:=x.den_pos;have aI:=y.den_pos;obtain ⟨dj,dL⟩:=h.2;obtain ⟨eH,e0⟩:=h'.2;refine oq (Xx h.1 h'.1 hx aI ⟨D,D⟩ ⟨D,D⟩) (df h.A h'.A) λv ad=>ad.gw ?_ ?_ ?_ (Gv ?_ D)
 ·exact Int.mul_ne_zero D D
 ·rw[q1,q1,tx,tx];have J:=sH x;have U:=sH y
  conv=>rhs;rw[rx x,rx y]
  grind
 have:=qd x.num.natAbs y.num.natAbs;omega;have:=qd x.den y.den;omega
def gN(x y:Rat):Int:=if x<y then -1 else if y<x then 1 else 0
theorem SR(x y:Rat):e8 (x.num*(y.den:Int)) (y.num*(x.den:Int))=gN x y:=by
 unfold e8 gN;have J:=Rat.lt_iff (a:=x) (b:=y);have U:=Rat.lt_iff (a:=y) (b:=x);simp only[J,U]
theorem ub(h:cH n x a b c d)(h':cH m y a8 a4 bj bK)(a5:n+m<=1000000:=by omega):cI 78 [.agg [a,b,c,d],.agg [a8,a4,bj,bK]] (m3 (·=gN x y)):=by
 obtain ⟨dj,dL⟩:=h.2;obtain ⟨eH,e0⟩:=h'.2;exact pC (Xv h.1 h'.1 x.den_pos y.den_pos ⟨D,D⟩ ⟨D,D⟩) (df h.A h'.A) ⟨_,rfl,SR x y⟩
theorem SL:cH 1 0 (.bool false) .af (.bool false) .af:=⟨⟨.af,.af,rfl,by rw[show (0:Rat).num.natAbs=0 from rfl,jm];exact bV.nil _,by rw[show j3 (0:Rat).den=[] from rfl];exact bV.nil _⟩,nm aS,nm aS⟩
end
theorem ae5{p q:Int}(al:ez p)(a7:ez q)(aR:q≠0){k:Nat}(hk:p.natAbs<1000000000 ^ k:=by omega)(fS:q.natAbs<1000000000 ^ k:=by omega)(J:1<=k:=by omega):cI 28 [.int .i64 p,.int .i64 q] (jh (cH k ((p:Rat) / (q:Rat)))):=
 oq (Xr al a7) (df rfl rfl) λ_ ad=>ad.gw aR rfl (nm hk) (Gv (nm fS) J)
end
section
inductive lk(s:S)(z:Nat):V->Nat->List V->Prop
 |ew (v:V) (l:Nat) (cs:List V) (h:dz z v l cs):lk s z v l cs
 |uo (b l:Nat) (cs:List V) (Y:b<s.n) (h:kY s b cs) (Z:cs.length=l*z):lk s z (.bx b 0 l l z) l cs
section
variable {ao s s':S}{z l:Nat}{v:V}{cs:List V}{L cu:List b2}
theorem lk.mono(h:lk ao z v l cs)(hm:aX ao s L):lk s z v l cs:=by
 cases h with
 |ew v l cs h=>exact .ew _ _ _ h
 |uo b l cs Y h Z=>
  obtain ⟨e,bw,own,au⟩:=h;exact .uo b l cs (r0 Y hm.loc.n) ⟨e,bw,own,(hm.old b Y).trans au⟩ Z
theorem lk.aN(h:lk s z v l cs):lk (aN s) z v l cs:=by
 cases h with
 |ew v l cs h=>exact .ew _ _ _ h
 |uo b l cs Y h Z=>exact .uo b l cs Y h Z
theorem cl.arz{e:Nat}(h:cl ao s e z v l cs):lk s z v l cs:=by
 cases h with
 |nil=>exact .ew _ _ _ .nil
 |cc b l cs bw h Z=>exact .uo b l cs h.hi h.rd Z
theorem lk.len(h:lk s z v l cs):fP v=some (.int .i64 l):=by
 cases h with
 |ew v l cs h=>exact h.len
 |uo=>rfl
theorem lk.cells(h:lk s z v l cs):cs.length=l*z:=by
 cases h with
 |ew v l cs h=>exact h.cells
 |uo b l cs Y h Z=>exact Z
theorem lk.bad(h:lk s z v l cs):en v=false:=by
 cases h with
 |ew v l cs h=>cases h<;>rfl
 |uo=>rfl
theorem lk.c1(h:lk s z v l cs)(k:IntKind){i:Int}(aR:0<=i)(J:i<l):∃p,dW z v (.int k i)=some p∧(∀n,n<=z->bf n s p=some (.agg ((cs.drop (i.toNat*z)).take n)))∧(z=1->cZ s p=some (cs.getD i.toNat .bad)):=by
 have hi:i.toNat<l:=D;have hm:i.toNat*z+z<=cs.length:=by rw[h.cells,<-wN];exact x6 _ hi
 cases h with
 |ew v l cs h=>
  refine ⟨_,h.c1 k aR J,λn a5=>LM s D,λaY=>?_⟩;subst aY;rw[ox];exact RO s D
 |uo b l cs Y h Z=>
  refine ⟨_,px k aR J,λn a5=>?_,λaY=>?_⟩;rw[gD];exact kN h D;subst aY;rw[gD,ox,nk h D]
theorem lk.items(h:lk s z v l cs){te:cb}(aY:te.size=z):items te (X.aN s) v=some (l,cs):=by
 cases h with
 |ew v l cs h=>exact h.items aY _
 |uo b l cs Y h Z=>
  obtain ⟨e,bw,own,au⟩:=h;have J:qh (X.aN s) b 0 (l*te.size)=some cs:=by
   rw[AY (s:=X.aN s) au (by rw[aY];omega),aY,<-Z];simp
  show (match qh (X.aN s) b 0 (l*te.size) with
   |some k=>some (l,k)
   |none=>none)=_
  rw[J]
end
def b2.u3:b2->Bool
 |.ro _ _=>false
 |_=>true
def pU(ao:S)(P:V->List b2->Prop)(r:ax):Prop:= ∃v s' cu,r=some (v,s')∧(aX ao s' cu∧cu.all b2.u3=true)∧P v cu
theorem bz.uD{O:bo}{G:aJ Func}{T:Types}{f:Nat}{F:Fn}(nK:bz O G T f F)(n:Nat){args:List V}{s ao:S}{P:V->List b2->Prop}(h:aV (pU ao P) (F (mb O G T) n args s))(hw:s.ag<=s.n):pU ao P (mb O G T f args s):=by
 obtain ⟨v,s',cu,J,U,aj⟩:=h;exact ⟨v,s',cu,nK.run n J hw,U,aj⟩
theorem b2.ok.base{ao bc s:S}{x:b2}(h:x.ok bc s)(a5:ao.n<=bc.n)(E:x.u3=true):x.ok ao s:=by
 cases x with
 |ro b cs=>cases E
 |gl b cs e bw=>exact ⟨gb a5 h.1,h.2⟩
 |cM b cs t=>exact ⟨gb a5 (dN.lo h),dN.hi h,dN.get h⟩
 |ca v e z l cs=>
  cases h with
  |nil=>exact .nil
  |cc b l cs bw h Z=>exact .cc b l cs bw ⟨gb a5 h.lo,h.hi,h.get⟩ Z
theorem b2.ok.Tw{ao s:S}{x:b2}{w:Nat}(h:x.ok ao s):x.ok ao { s with ag:=w } :=by
 cases x with
 |ro b cs=>exact h
 |gl b cs e bw=>exact h
 |cM b cs t=>
  have h:dN ao s b cs t false:=h;exact ⟨h.lo,h.hi,h.get⟩
 |ca v e z l cs=>
  cases h with
  |nil=>exact .nil
  |cc b l cs bw h Z=>exact .cc b l cs bw ⟨h.lo,h.hi,h.get⟩ Z
theorem oE.app{L cu:List b2}(h:oE L)(h':oE cu)(ai:∀x,x∈L-> ∀y,y∈cu-> ∀b,b∈x.hf->b∉y.hf):oE (L++cu):=by
 induction L with
 |nil=>exact h'
 |cons x L a3=>
  refine ⟨λy aI b Y=>?_,a3 h.2 λx hx=>ai x (lG _ hx)⟩;rcases mB.1 aI with aI|aI
  exact h.1 y aI b Y;exact ai x (j5 ..) y aI b Y
theorem aX.join{ao s s':S}{L cu:List b2}(h:aX ao s L)(h':aX (aN s) s' cu)(E:cu.all b2.u3=true){w:Nat}(hw:w=min s.ag s'.ag):aX ao { s' with ag:=w } (cu++L):=by
 have a5:=h'.loc.n;have uR:s.n<=s'.n:=a5;have uW:s.n<=s'.ag:=h'.loc.eK;have J:=h.loc.n;have U:=h.loc.eK;have aj:=h.loc.ag;have aH:=h'.loc.ag;have hold:∀c,c<s.n->s'.h.get c=s.h.get c:=h'.old;have adU:∀ {x:b2} {bc:S},x.ok bc s'->x.ok bc { s' with ag:=w } :=λh=>h.Tw;refine ⟨⟨by simp only[];omega,by simp only[];omega,by simp only[];omega⟩,λx hx=>?_,h'.ju.app h.ju λx hx y aI b Y ft=>?_,λc aa=>?_,h.n3⟩;rcases mB.1 hx with hx|hx
 exact adU ((h'.ok x hx).base J (fj.1 E x hx));have:=h.ok x hx;exact adU (this.a1 (X:=[]) ⟨uR,λc aa _=>hold c aa⟩ (λ_ _=>by simp) (λ_ h=>by cases h));have bD:=((h'.ok x hx).lo Y).1;have cF:=((h.ok y aI).lo ft).2;have atT:s.n<=b:=bD;omega;show s'.h.get c=_;rw[hold c D,h.old c aa]
section
variable {ao s:S}{L cu:List b2}{Q:ax->Prop}
theorem Xy{cz:bt}{aP st:Bool}{f:Nat}{args:List V}{s s':S}{v:V}(h':cz f args (aN s)=some (v,s'))(hw:s.n<=s'.ag∨aP=false)(Y:args.any en=false)(hk:dT f=true):cJ cz aP st (.fn f [] []) args s=some (v, { s' with ag:=min s.ag s'.ag }):=by
 unfold cJ;rw[Y];simp only[hp,hd,kG,hk];have h':cz f args { s with ag:=s.n } =some (v,s'):=h';rw[h'];have ai:qI aP st [] (Nat.ble s.n s'.ag)=true:=by
  rcases hw with hw|hw
  have:Nat.ble s.n s'.ag=true:=by rw[eu];exact hw
  rw[this];cases aP<;>cases st<;>rfl;rw[hw];rfl
 simp only[ai,least]
theorem aiI{cz:bt}{f:Nat}{args:List V}{s s':S}{v:V}(h':cz f args (aN s)=some (v,s'))(hw:s.n<=s'.ag)(Y:args.any en=false)(hk:dT f=true):et cz (.fn f [] []) args s=some (v, { s' with ag:=min s.ag s'.ag },eM none s.n s'.n []):=by
 unfold et;rw[Y];simp only[hp,hd,kG,hk];have h':cz f args { s with ag:=s.n } =some (v,s'):=h';rw[h'];have:Nat.blt s'.ag s.n=false:=by cases h:Nat.blt s'.ag s.n with
  |false=>rfl
  |true=>rw[gy]at h;omega
 simp only[this,least];rfl
theorem Cv{K:V->S->ax}{aP st:Bool}{f:Nat}{args:List V}{P:V->List b2->Prop}(h:aX ao s L)(aa:pU (aN s) P (a9 f args (aN s)))(Y:args.any en=false)(H:∀v s' cu,P v cu->aX ao s' (cu++L)->aV Q (K v s'))(hk:dT f=true:=by rfl):aV Q (bZ (cJ a9 aP st (.fn f [] []) args s) K):=by
 obtain ⟨v,s',cu,e,⟨hm,gX⟩,al⟩:=aa;rw[Xy e (.inl hm.loc.eK) Y hk,js];exact H v _ cu al (h.join hm gX rfl)
theorem akR{K:V->S->ct->ax}{f:Nat}{args:List V}{P:V->List b2->Prop}(h:aX ao s L)(aa:pU (aN s) P (a9 f args (aN s)))(Y:args.any en=false)(H:∀v s' lo hi cu,P v cu->aX ao s' (cu++L)->aV Q (K v s' (eM none lo hi [])))(hk:dT f=true:=by rfl):aV Q (dp (et a9 (.fn f [] []) args s) K):=by
 obtain ⟨v,s',cu,e,⟨hm,gX⟩,al⟩:=aa;rw[aiI e hm.loc.eK Y hk,pX];exact H v _ _ _ cu al (h.join hm gX rfl)
theorem YJ{K:V->S->ax}{st:Bool}{f:Nat}{args:List V}{P:V->List b2->Prop}(aa:pU ao P (a9 f args (aN s)))(hw:ao.n<=s.ag)(Y:args.any en=false)(H:∀v s' cu,P v cu->aX ao s' cu->aV Q (K v s'))(hk:dT f=true:=by rfl):aV Q (bZ (cJ a9 false st (.fn f [] []) args s) K):=by
 obtain ⟨v,s',cu,e,⟨hm,gX⟩,al⟩:=aa;rw[Xy e (.inr rfl) Y hk,js];refine H v _ cu al ⟨⟨hm.loc.n,?_,?_⟩,λx hx=>?_,hm.ju,hm.old,hm.n3⟩;have:=hm.loc.eK;simp only[];omega;have:=hm.loc.ag;simp only[];omega;exact (hm.ok x hx).Tw
theorem aj0{ao s:S}{v:V}(h:en v=false):e5 true ao s [some v]=some (v,s):=by
 show yu [some v] s=_;unfold yu;rw[r9 h];rfl
theorem yA{P:V->List b2->Prop}{v:V}{bc:S}(h:aX ao s L)(Y:en v=false)(al:P v cu)(ae:cu.Sublist L)(E:cu.all b2.u3=true:=by rfl):aV (pU ao P) (e5 true bc s [some v]):=⟨v,s,cu,aj0 Y,⟨h.sub ae,E⟩,al⟩
end
end
section
inductive eX{α:Type}(z:Nat)(R:α->List V->Prop):List α->List V->Prop
 |nil:eX z R [] []
 |cons (x:α) (c:List V) (xs:List α) (cs:List V) (h:R x c) (Z:c.length=z) (av:c.all atom=true) (ae:eX z R xs cs):eX z R (x::xs) (c++cs)
section
variable {α:Type}{z:Nat}{R:α->List V->Prop}{xs kx:List α}{cs dg:List V}
theorem eX.len(h:eX z R xs cs):cs.length=xs.length*z:=by
 induction h with
 |nil=>simp
 |cons x c xs cs h Z av ae a3=>rw[hZ,Z,a3,qW,wN];omega
theorem eX.atoms(h:eX z R xs cs):cs.all atom=true:=by
 induction h with
 |nil=>rfl
 |cons x c xs cs h Z av ae a3=>exact j8 av a3
theorem eX.app(h:eX z R xs cs)(h':eX z R kx dg):eX z R (xs++kx) (cs++dg):=by
 induction h with
 |nil=>exact h'
 |cons x c xs cs h Z av ae a3=>rw[vl];exact .cons _ _ _ _ h Z av a3
theorem eX.one{x:α}{c:List V}(h:R x c)(Z:c.length=z)(av:c.all atom=true):eX z R [x] c:=by
 have:=eX.cons x c [] [] h Z av .nil
 rwa [hd]at this
theorem eX.at(h:eX z R xs cs){i:Nat}(hi:i<xs.length):∃x c r,xs[i]? =some x∧R x c∧c.length=z∧c.all atom=true∧cs.drop (i*z)=c++r:=by
 induction h generalizing i with
 |nil=>simp at hi
 |cons x c xs cs h Z av ae a3=>
  cases i with
  |zero=>exact ⟨x,c,cs,rfl,h,Z,av,by rw[Bq,h5]⟩
  |succ i=>
   obtain ⟨x',bj,r,J,U,aj,aH,bD⟩:=a3 (i:=i) (by simpa using hi);refine ⟨x',bj,r,by simpa using J,U,aj,aH,?_⟩;rw[wN,DY,<-Z,M6,Z,bD]
theorem eX.set(h:eX z R xs cs){i:Nat}(hi:i<xs.length){x:α}{c:List V}(hx:R x c)(Z:c.length=z)(av:c.all atom=true):eX z R (xs.set i x) (gp cs (i*z) c):=by
 induction h generalizing i with
 |nil=>simp at hi
 |cons x' bj xs cs h dK jZ ae a3=>
  cases i with
  |zero=>
   have:gp (bj++cs) (0*z) c=c++cs:=by
    unfold gp;rw[Bq,sP,hp,gD,Z,<-dK,List.drop_left]
   rw[this];exact .cons _ _ _ _ hx Z av ae
  |succ i=>
   have:=a3 (i:=i) (by simpa using hi);have e:gp (bj++cs) ((i+1)*z) c=bj++gp cs (i*z) c:=by
    unfold gp;rw[show (i+1)*z=bj.length+i*z by rw[wN,dK];omega,TN,pL,M6,vl]
   rw[e,List.set_cons_succ];exact .cons _ _ _ _ h dK jZ this
theorem eX.cC{x:α}{c:List V}(h:R x c)(Z:c.length=z)(av:c.all atom=true):∀n:Nat,eX z R (List.replicate n x) (X.cC n c)
 |0=>.nil
 |n+1=>.cons _ _ _ _ h Z av (eX.cC h Z av n)
def fY(z:Nat)(R:α->List V->Prop)(xs:List α)(v:V):Prop:= ∃cs,dz z v xs.length cs∧eX z R xs cs
def kk(s:S)(z:Nat)(R:α->List V->Prop)(xs:List α)(v:V):Prop:= ∃cs,lk s z v xs.length cs∧eX z R xs cs
theorem fY.atom{v:V}(h:fY z R xs v):X.atom v=true:=let ⟨_,h,_⟩:=h;h.atom
theorem fY.len{v:V}(h:fY z R xs v):fP v=some (.int .i64 xs.length):=let ⟨_,h,_⟩:=h;h.len
theorem fY.nil:fY z R [] .af:=⟨[],.nil,.nil⟩
theorem fY.ls{v:V}{s:S}(h:fY z R xs v):kk s z R xs v:=let ⟨cs,h,h'⟩:=h;⟨cs,.ew _ _ _ h,h'⟩
theorem fY.c1{v:V}(h:fY z R xs v){i:Int}(aR:0<=i)(J:i<xs.length):∃x c r,xs[i.toNat]? =some x∧R x c∧c.length=z∧c.all X.atom=true∧ ∀k,dW z v (.int k i)=some (.fu (c++r)):=by
 obtain ⟨cs,aM,aa⟩:=h;obtain ⟨x,c,r,U,aj,aH,bD,cF⟩:=aa.at (i:=i.toNat) D;exact ⟨x,c,r,U,aj,aH,bD,λk=>by rw[aM.c1 k aR J,cF]⟩
theorem kk.len{s:S}{v:V}(h:kk s z R xs v):fP v=some (.int .i64 xs.length):=let ⟨_,h,_⟩:=h;h.len
theorem kk.mono{ao s:S}{v:V}{L:List b2}(h:kk ao z R xs v)(hm:aX ao s L):kk s z R xs v:=let ⟨cs,h,h'⟩:=h;⟨cs,h.mono hm,h'⟩
theorem Db{c r:List V}(s:S){n:Nat}(h:n<=c.length):bf n s (.fu (c++r))=some (.agg (c.take n)):=by
 have:=LM (cs:=c++r) s (n:=0) (z:=n) (by simp;omega)
 rwa [h5,List.take_append_of_le_length h]at this
end
theorem hJ:(∀(o:Nat) (l:List V),fW (Nat.ble o l.length)->a6 o (.fu l)=some (.fu (l.drop o)))∧(∀(n:Nat) (l:List V) (s:S),fW (Nat.ble n l.length)->bf n s (.fu l)=some (.agg (l.take n)))∧(∀(v:V) (l:List V) (s:S),cZ s (.fu (v::l))=some v)∧
  (∀(v:V) (l l':List V),(v::l)++l'=v::(l++l'))∧(∀l:List V,[]++l=l):=by
 refine ⟨λo l h=>?_,λn l s h=>?_,λv l s=>?_,λ_ _ _=>rfl,λ_=>rfl⟩;have:Nat.ble o l.length=true:=h;simp only[a6,uA,this];have:=LM (cs:=l) s (n:=0) (z:=n) (by rw[gD];exact h.le)
 rwa [h5]at this
 have:=RO (cs:=v::l) s (n:=0) (by simp)
 rwa [h5]at this
end
def db(A B:Nat)(x:Rat)(a b c d:V):Prop:=kZ x (.agg [a,b,c,d])∧x.num.natAbs<=A∧x.den<=B
def kE(A B:Nat)(x:Rat)(cs:List V):Prop:= ∃a b c d,cs=[a,b,c,d]∧db A B x a b c d
structure oD where
 nG:Nat
 x:Rat
 y:Rat
 s:Rat
structure gT where
 shape:List (Int×Int)
 hx:Rat
 aI:Rat
 ek:List oD
structure qo where
 bound:Bool
 lo:Rat
 hi:Rat
structure qt where
 a:Int
 b:Int
 Yx:Rat
 Yy:Rat
 adX:Rat
 ty:Rat
 zT:List (Int×Int×Int)
 len:Rat
structure kl where
 h7:List qo
 parts:List gT
 zg:List qt
 skip:List (Int×Int)
structure oH where
 tick:Int
 q:List Rat
 v:List Rat
 here:List Bool
def wY(c:oD)(cs:List V):Prop:= ∃fA gC gx g4 gh gQ cD jD s1 s2 fB hF,cs=[.int .i64 c.nG,fA,gC,gx,g4,gh,gQ,cD,jD,s1,s2,fB,hF]∧db 2 2 c.x fA gC gx g4∧db 2 2 c.y gh gQ cD jD∧db 2 2 c.s s1 s2 fB hF
def l7(p:Int×Int)(cs:List V):Prop:=cs=[.int .i64 p.1,.int .i64 p.2]
def Em(p:Int×Int×Int)(cs:List V):Prop:=cs=[.int .i64 p.1,.int .i64 p.2.1,.int .i64 p.2.2]
def yj(b:Bool)(cs:List V):Prop:=cs=[.bool b]
def Ox(p:gT)(cs:List V):Prop:= ∃mR fA gC gx g4 gh gQ cD jD kq fQ bM jB hL bb bU cP c7,cs=[mR,fA,gC,gx,g4,gh,gQ,cD,jD,kq,fQ,bM,jB,hL,bb,bU,cP,c7]∧
 fY 2 l7 p.shape mR∧db 100 1 p.hx fA gC gx g4∧db 100 1 p.aI gh gQ cD jD∧fY 13 wY p.ek kq∧([fQ,bM,jB,hL,bb,bU,cP,c7]:List V).all atom=true
def ug(d:qo)(cs:List V):Prop:= ∃i1 i2 i3 i4 bk cn dM eU fA gC gx g4 gh gQ cD jD,cs=[i1,i2,i3,i4,bk,cn,dM,eU,.bool d.bound,fA,gC,gx,g4,gh,gQ,cD,jD]∧
 ([i1,i2,i3,i4,bk,cn,dM,eU]:List V).all atom=true∧db 100 100 d.lo fA gC gx g4∧db 100 100 d.hi gh gQ cD jD
def Jk(r:qt)(cs:List V):Prop:= ∃f1 f2 f3 f4 dj dL eH e0 t1 t2 t3 t4 de ej dy jc dg bk cn dM eU,cs=[.int .i64 r.a,.int .i64 r.b,f1,f2,f3,f4,dj,dL,eH,e0,t1,t2,t3,t4,de,ej,dy,jc,dg,bk,cn,dM,eU]∧
 db 100 100 r.Yx f1 f2 f3 f4∧db 100 100 r.Yy dj dL eH e0∧db 100 100 r.adX t1 t2 t3 t4∧db 100 100 r.ty de ej dy jc∧fY 3 Em r.zT dg∧db 1000 1000 r.len bk cn dM eU
def nD(m:kl)(v:V):Prop:= ∃d p r k,v=.agg [d,p,r,k]∧fY 17 ug m.h7 d∧fY 18 Ox m.parts p∧fY 23 Jk m.zg r∧fY 2 l7 m.skip k
def wZ(t:oH)(v:V):Prop:= ∃q w h,v=.agg [.int .i64 t.tick,q,w,h]∧fY 4 (kE 3 3) t.q q∧fY 4 (kE 100 100) t.v w∧fY 1 yj t.here h
structure gT.ok(p:gT)(aL:Nat):Prop where
 s1:1<=p.shape.length
 wA:p.shape.length<=8
 c5:∀x,x∈p.shape-> -1000<=x.1∧x.1<=1000∧ -1000<=x.2∧x.2<=1000
 dc:p.ek.length<=3
 Cb:∀c,c∈p.ek->c.nG<aL
structure qt.ok(r:qt)(n:Nat):Prop where
 fC:0<=r.a
 b1:r.a<n
 oK: -1<=r.b
 bb:r.b<n
 d8:r.zT.length<=8
 aP:∀x,x∈r.zT-> -1000<=x.1∧x.1<=1000∧ -1000<=x.2.1∧x.2.1<=1000∧1<=x.2.2∧x.2.2<=1000
structure kl.ok(m:kl):Prop where
 d:m.h7.length<=8
 e1:1<=m.parts.length
 kh:m.parts.length<=8
 parts:∀p,p∈m.parts->p.ok m.h7.length
 bM:m.zg.length<=2
 zg:∀r,r∈m.zg->r.ok m.parts.length
 aT:m.skip.length<=2
 skip:∀x,x∈m.skip-> -1000<=x.1∧x.1<=1000∧ -1000<=x.2∧x.2<=1000
structure oH.ok(t:oH)(m:kl):Prop where
 t0:0<=t.tick
 t1:t.tick<=1000
 q:t.q.length=m.h7.length
 v:t.v.length=m.h7.length
 h:t.here.length=m.parts.length
def rL(q:List Rat)(ek:List oD):Rat:=ek.foldl (λa c=>a+q.getD c.nG 0*c.x) 0
def rM(q:List Rat)(ek:List oD):Rat:=ek.foldl (λa c=>a+q.getD c.nG 0*c.y) 0
theorem Cn{α β:Type}(f:β->α->β)(b:β){l:List α}{i:Nat}{x:α}(h:l[i]? =some x):(l.take (i+1)).foldl f b=f ((l.take i).foldl f b) x:=by
 rw[xY h,List.foldl_append];rfl
structure je where
 h9:Rat
 im:Rat
 hx:Rat
 aI:Rat
def nS(a b:je):Bool:= !decide (a.hx<b.h9) && !decide (b.hx<a.h9) && (!decide (a.aI<b.im) && !decide (b.aI<a.im))
def xb(a b:je):Bool:= !decide (b.h9<a.h9) && !decide (b.im<a.im) && (!decide (a.hx<b.hx) && !decide (a.aI<b.aI))
theorem aiZ{a b:je}(J:b.h9<=b.hx)(U:b.im<=b.aI):(nS a ⟨b.h9,b.im,b.h9,b.im⟩ && nS a ⟨b.hx,b.aI,b.hx,b.aI⟩)=xb a b:=by
 rw[Bool.eq_iff_iff];unfold nS xb;simp only[dU,Bl,decide_eq_false_iff_not,zz];constructor;rintro ⟨⟨⟨aj,aH⟩,bD,cF⟩,⟨dV,fL⟩,jH,tf⟩;exact ⟨⟨aH,cF⟩,dV,jH⟩;rintro ⟨⟨aj,aH⟩,bD,cF⟩;exact ⟨⟨⟨Rat.le_trans J bD,aj⟩,Rat.le_trans U cF,aH⟩,⟨bD,Rat.le_trans aj J⟩,cF,Rat.le_trans aH U⟩
def kg(l:List Int):Int:=l.foldl min (l.headD 0)
def dk(l:List Int):Int:=l.foldl max (l.headD 0)
theorem ao9{l:List Int}(b:Int):l.foldl min b<=b∧ ∀x,x∈l->l.foldl min b<=x:=by
 induction l generalizing b with
 |nil=>exact ⟨vn _,λ_ h=>by cases h⟩
 |cons a l a3=>
  obtain ⟨J,U⟩:=a3 (min b a);rw[DX];refine ⟨D,λx hx=>?_⟩;rcases hc.1 hx with rfl|hx
  omega;exact U x hx
theorem aoV{l:List Int}(b:Int):b<=l.foldl max b∧ ∀x,x∈l->x<=l.foldl max b:=by
 induction l generalizing b with
 |nil=>exact ⟨vn _,λ_ h=>by cases h⟩
 |cons a l a3=>
  obtain ⟨J,U⟩:=a3 (max b a);rw[DX];refine ⟨D,λx hx=>?_⟩;rcases hc.1 hx with rfl|hx
  omega;exact U x hx
theorem abG(l:List Int):kg l<=dk l:=by
 unfold kg dk;have:=(ao9 (l:=l) (l.headD 0)).1;have:=(aoV (l:=l) (l.headD 0)).1;omega
def Sj(m:kl)(t:oH)(p:gT):Rat:=p.hx+rL t.q p.ek
def Sk(m:kl)(t:oH)(p:gT):Rat:=p.aI+rM t.q p.ek
def sK(m:kl)(t:oH)(p:gT):je:=
 ⟨Sj m t p+(kg (p.shape.map (·.1)):Rat),Sk m t p+(kg (p.shape.map (·.2)):Rat),Sj m t p+(dk (p.shape.map (·.1)):Rat),Sk m t p+(dk (p.shape.map (·.2)):Rat)⟩
end Go.ah.X
