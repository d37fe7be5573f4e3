/-
  A part: lemmas; conditions: those that each names.
-/
import Derived.Test.YtalmddmghdinkaaGreatDoorZA
set_option linter.all false
set_option linter.deprecated false
noncomputable section
set_option maxHeartbeats 8000000
set_option maxRecDepth 20000
namespace Go.ah.X
open Go Go.ah Go.Proofs.dI
section
theorem Jx:([]:List V).all atom=true:=rfl
attribute [local irreducible] jj bZ dp aF gZ cJ et c6 e9 eT aW aw cT bB e5 fD ef gv fl eV fe aV
def En(n:Nat)(a b c d a8 a4 bj bK:V):Prop:=(∃x,cH n x a b c d)∧ ∃y,cH n y a8 a4 bj bK
theorem En.at{n:Nat}{a b c d a8 a4 bj bK:V}(h:En n a b c d a8 a4 bj bK):([a,b,c,d,a8,a4,bj,bK]:List V).all X.atom=true:=let ⟨⟨_,J⟩,_,U⟩:=h;eC J (eC U rfl)
theorem Mp(n:Nat)(a5:1<=n:=by omega):En n (.bool false) .af (.bool false) .af (.bool false) .af (.bool false) .af:=⟨⟨_,ns.hE.mono a5⟩,_,ns.hE.mono a5⟩
def ag1(v:V):Prop:= ∃a b c d e f g i a8 a4 bj bK aZ gj g0 dt q,v=.da [.agg [a,b,c,d,e,f,g,i],.agg [a8,a4,bj,bK,aZ,gj,g0,dt],.bool q]∧En 17 a b c d e f g i∧En 17 a8 a4 bj bK aZ gj g0 dt
theorem afp{m:kl}{v q w h':V}{Q:List Rat}{B:List Bool}{gO:Int}{R:qt}{rc:List V}(hm:nD m v)(aE:m.ok)(fE:B.length=m.parts.length)(hK:Q.length=m.h7.length)(pn:Jk R rc)(z5:R.ok m.parts.length):
  ∀s:S,s.ag=s.n->l4 s->kk s 4 (kE 3 3) Q q->kk s 1 yj B h'->r5 s ag1 (a9 79 [v,.agg [.int .i64 gO,q,w,h'],.agg rc] s):=λs ae au a7 dE=>
 (agH (cv aS)).uD 0 (by
  show aV _ (Of a9 0 v (.agg [.int .i64 gO,q,w,h']) (.agg rc) s);unfold Of;simp only[cw];have h:=aX.nil ae au;have r:=h.bX;have kI:=hm;obtain ⟨d,p,r',k',rfl,J,U,aj,aH⟩:=hm;obtain ⟨i1,i2,i3,i4,_,_⟩:=z5;obtain ⟨Dw,SE,Yx,Yy,adX,ty,zT,len⟩:=R;obtain ⟨f1,f2,f3,f4,dj,dL,eH,e0,t1,t2,t3,t4,de,ej,dy,jc,dg,bk,cn,dM,eU,rfl,cL,cS,ds,gw,qK,GI⟩:=pn;simp only[]at i1 i2 i3 i4;obtain ⟨WT,rfl⟩:∃n:Nat,Dw=n:=⟨Dw.toNat,D⟩;have we:∀ {j:Nat},j<m.parts.length-> ∃x y:Rat,∀s:S,s.ag=s.n->l4 s->kk s 4 (kE 3 3) Q q->r5 s (wW (cH 15 x) (cH 15 y)) (a9 75 [.agg [d,p,r',k'],q,.int .i64 j] s):=λ{j} aG=>by
   obtain ⟨dm,fg,fy,gH,ho⟩:=aE.parts _ (tX aG);exact ⟨_,_,Nh (w:=q) (q:=Q) kI (mA aG) gH (λc aa=>by have:=ho c aa;omega)⟩
  obtain ⟨fA,gh,RL⟩:=we (j:=WT) D;obtain ⟨e1,aha,_,_,jo,_,rfl,_,_,_,_,_,gY⟩:=dE.p au (i:=(WT:Int)) D D;have jo:=jo .i64;have xT:=a7.bad;have st:([t1,t2,t3,t4,de,ej,dy,jc]:List V).all bL=true:=dB (eC ds.hE (eC gw.hE rfl));cases aha
  ·have bC:=ar @jo (ar @nv (ar @lg @j6));repeat' first
    |refine cO ?_
    |refine mL h λ_ _ _ h r=>?_
    |refine cf h λ_ _ h r=>?_
    |refine mM (gY _ _ h rfl) ?_
    |refine c9 h cj (λ_ h r=>?_)
    |exact Ko h rfl rfl rfl ⟨_,_,_,_,_,_,_,_,_,_,_,_,_,_,_,_,_,rfl,Mp 17,Mp 17⟩
  by_cases Y:0<=SE
  ·obtain ⟨Xe,rfl⟩:∃n:Nat,SE=n:=⟨SE.toNat,D⟩;obtain ⟨gC,gQ,Gh⟩:=we (j:=Xe) D;obtain ⟨ei,ahb,_,_,v0,_,rfl,_,_,_,_,_,v4⟩:=dE.p au (i:=(Xe:Int)) D D;have v0:=v0 .i64;cases ahb
   ·have bC:=ar @jo (ar @v0 (ar @nv (ar @lg @j6)));repeat' first
     |refine cO ?_
     |refine mL h λ_ _ _ h r=>?_
     |refine cf h λ_ _ h r=>?_
     |refine mM (gY _ _ h rfl) ?_
     |refine mM (v4 _ _ h rfl) ?_
     |refine c9 h cj (λ_ h r=>?_) (hx:=st)
     |refine c9 h cj (λ_ h r=>?_)
     |exact Ko h rfl rfl rfl ⟨_,_,_,_,_,_,_,_,_,_,_,_,_,_,_,_,_,rfl,Mp 17,Mp 17⟩
   ·have bC:=ar @jo (ar @v0 (ar @nv (ar @lg @j6)));repeat' first
     |refine cO ?_
     |refine mL h λ_ _ _ h r=>?_
     |refine cf h λ_ _ h r=>?_
     |refine mM (gY _ _ h rfl) ?_
     |refine mM (v4 _ _ h rfl) ?_
     |refine c9 h cj (λ_ h r=>?_) (hx:=st)
     |refine Cx h (Gh _ rfl h.g ((a7.mono h).aN)) (xM rfl xT rfl) (λ_ _ _ _ ⟨_,_,_,_,_,_,_,_,aZ,dm,fg⟩ h r=>?_);subst aZ;have uZ:=By (n:=1) (m:=15) ds.hE gw.hE dm fg
     |refine Cx h (RL _ rfl h.g ((a7.mono h).aN)) (xM rfl xT rfl) (λ_ _ _ _ ⟨_,_,_,_,_,_,_,_,aZ,dm,fg⟩ h r=>?_);subst aZ;have kf:=By (n:=1) (m:=15) cL.hE cS.hE dm fg
     |refine ta h uZ λ_ _ _ _ _ _ _ _ ed gu=>?_;have s1:=dB (eC ed (eC gu Jx))
     |refine ta h kf λ_ _ _ _ _ _ _ _ dR dF=>?_;have s2:=dB (eC dR (eC dF Jx))
     |refine fN h cj (λ_ _ h r=>?_) (hx:=s1)
     |refine fN h cj (λ_ _ h r=>?_) (hx:=s2)
     |refine pj ?_
     |exact Ko h rfl rfl rfl ⟨_,_,_,_,_,_,_,_,_,_,_,_,_,_,_,_,_,rfl,⟨⟨_,dR.mono D⟩,_,dF.mono D⟩,⟨_,ed.mono D⟩,_,gu.mono D⟩
  ·have bC:=ar @jo (ar @nv (ar @lg @j6));repeat' first
    |refine cO ?_
    |refine mL h λ_ _ _ h r=>?_
    |refine cf h λ_ _ h r=>?_
    |refine mM (gY _ _ h rfl) ?_
    |refine c9 h cj (λ_ h r=>?_) (hx:=st)
    |refine Cx h (RL _ rfl h.g ((a7.mono h).aN)) (xM rfl xT rfl) (λ_ _ _ _ ⟨_,_,_,_,_,_,_,_,aZ,dm,fg⟩ h r=>?_);subst aZ;have kf:=By (n:=1) (m:=15) cL.hE cS.hE dm fg
    |refine ta h kf λ_ _ _ _ _ _ _ _ dR dF=>?_;have s2:=dB (eC dR (eC dF Jx))
    |refine fN h cj (λ_ _ h r=>?_) (hx:=st)
    |refine fN h cj (λ_ _ h r=>?_) (hx:=s2)
    |refine pj ?_
    |exact Ko h rfl rfl rfl ⟨_,_,_,_,_,_,_,_,_,_,_,_,_,_,_,_,_,rfl,⟨⟨_,dR.mono D⟩,_,dF.mono D⟩,⟨_,ds.hE.mono D⟩,_,gw.hE.mono D⟩) D
end
section
section
variable {ao s:S}{L cu:List b2}{Q:ax->Prop}
theorem akx{K:V->S->ax}{aP:Bool}{f e z l:Nat}{x:V}{cs:List V}{P:V->Prop}(p q:List V)(h:aX ao s L)(u:ji L (.ca x e z l cs) cu)(av:cs.all atom=true)(has:p.all ep=true)(E:q.all ep=true)(aa:∀x',dz z x' l cs->cI f (p++x'::q) P)
  (H:∀v s',P v->aX ao s' cu->jF s' cu->aV Q (K v s')) (hk:dT f=false:=by rfl):aV Q (bZ (cJ a9 aP false (.fn f [] []) (p++x::q) s) K):=by
 have aE:cl ao s e z x l cs:=h.ok _ u.mem;obtain ⟨x',bc,fO,h3⟩:=vM p q aE av has E;have Y:=λb (Y:b∈b4 x)=>(aE.lo Y).1;have hw:bc.ag=bc.n:=by rw[fO.n.1,fO.n.2];rfl
 obtain ⟨v,ad,aC⟩:=(aa x' h3).1 bc hw (fO.h h Y);have key:∃s',cJ a9 aP false (.fn f [] []) (p++x::q) s=some (v,s')∧Loc ao s'∧fX s s' (b4 x):=by
  have gg:bc.n=s.n:=fO.n.1;have ml:bc.ag=s.n:=fO.n.2;have aR:=h.loc.n;have J:=h.loc.eK;have U:=h.loc.ag;unfold cJ;rw[fO.bad];simp only[hp,hd];have E:kG dT f (p++x::q) { s with ag:=s.n } =(p++x'::q,b4 x,bc):=(s8 hk _ _).trans fO.run;rw[E];simp only[];rw[aC];have ai:qI aP false (b4 x) (Nat.ble s.n bc.ag)=true:=by
   have:Nat.ble s.n bc.ag=true:=by rw[eu,ml];exact cg _
   rw[this];cases aP<;>rfl
  simp only[ai];exact ⟨_,rfl,⟨by simp only[gg];exact aR,tF Y D,gb u1 (by simp only[gg];omega)⟩,⟨by simp only[gg];omega,λc _ aa=>fO.out aa⟩⟩
 obtain ⟨s',ba,bk,aB⟩:=key;rw[ba,js];have h':=h.GJ u bk aB;exact H _ _ ad h' h'.bX
theorem ahd{n m:Nat}{x y:Rat}{a b c d e f g i:V}(J:cH n x a b c d)(U:cH m y e f g i):([.agg [a,b,c,d,e,f,g,i]]:List V).all ep=true:=by
 have:ep (.agg [a,b,c,d,e,f,g,i])=true:=eC J (eC U rfl);rw[gS,this];rfl
theorem aX.ahW{v:V}{e n i:Nat}{c:List V}(h:aX ao s L)(u:b2.ca v e 1 n c∈L)(aa:mY n c)(hi:i<n):∃p b,(∀k,dW 1 v (.int k i)=some (.ptr p i))∧ ∀s' cu,aX ao s' cu->b2.ca v e 1 n c∈cu->cZ s' (.ptr p i)=some (.bool b):=by
 obtain ⟨p,bw,rfl,Y⟩:=(show cl ao s e 1 v n c from h.ok _ u).qG D;have Z:=aa.1;obtain ⟨b,n7⟩:=aa.2 (c.getD i .bad) (by rw[ir,mA D];exact tX _);refine ⟨p,b,λk=>?_,λs' cu h' kS=>?_⟩;have:=px (b:=p) (o:=0) (l:=n) (c:=n) (mW:=1) (z:=1) k (i:=(i:Int)) D D
 rwa [gD,dZ,ox]at this
 obtain ⟨dA,tO,aZ,ft⟩:=(show cl ao s' e 1 (.bx p 0 n n 1) n c from h'.ok _ kS).qG D;cases aZ;rw[nk ft.rd D,n7]
theorem aX.xS{v:V}{e l N:Nat}{xs:List (Int×Int)}{c:List V}(h:aX ao s L)(u:b2.ca v e 2 l c∈L)(Z:xs.length=l)(aa:eX 2 l7 xs c)(al:∀p,p∈xs->Jh N p){i:Nat}(hi:i<l):
  ∃b x y:Nat,x<N∧y<N∧(∀k,dW 2 v (.int k i)=some (.ptr b (i*2)))∧cZ s (.ptr b (i*2))=some (.int .i64 x)∧cZ s (.ptr b (i*2+1))=some (.int .i64 y):=by
 obtain ⟨b,P,jS,aC,ba,rfl,_,_,_,_⟩:=h.own u Z aa hi;obtain ⟨oo,e1,ei,fG⟩:=al P (hR ba);obtain ⟨cM,bw,rfl,Y⟩:=(show cl ao s e 2 v l c from h.ok _ u).qG D;have cd:=aC .i64;rw[px .i64 D D,gD,dZ]at cd;cases cd;obtain ⟨x,vD,r,U,aj,aH,bD,cF⟩:=aa.at (i:=i) D;rw[ba]at U;cases U;cases aj;have kb:=aa.len;have dj:c.getD (i*2) .bad=.int .i64 P.1:=by
  have:c.getD (i*2) .bad=(c.drop (i*2)).getD 0 .bad:=by simp[ir]
  rw[this,cF];rfl
 have dL:c.getD (i*2+1) .bad=.int .i64 P.2:=by
  have:c.getD (i*2+1) .bad=(c.drop (i*2)).getD 1 .bad:=by simp[ir]
  rw[this,cF];rfl
 refine ⟨b,P.1.toNat,P.2.toNat,D,D,aC,?_,?_⟩;rw[nk Y.rd D,dj,Bp oo];rw[nk Y.rd D,dL,Bp ei]
end
theorem anW:(∀(k:IntKind) (b o:Nat),nR 2 1 (.ptr b o) (.int k 0)=some (.ptr b o))∧(∀(k:IntKind) (b o:Nat),nR 2 1 (.ptr b o) (.int k 1)=some (.ptr b (o+1))):=⟨λ_ _ _=>rfl,λ_ _ _=>rfl⟩
theorem LX{u:V}(hu:en u=false): [u].any en=false:=by
 show (en u || false)=false;rw[hu];rfl
attribute [local irreducible] jj bZ dp aF gZ cJ et c6 e9 eT aW aw cT bB e5 fD ef gv fl eV fe aV
theorem afb{m:kl}{v q w h':V}{Q W:List Rat}{B:List Bool}{gO:Int}(hm:nD m v)(aE:m.ok)(hK:Q.length=m.h7.length)(m6:W.length=m.h7.length)(fE:B.length=m.parts.length)(t0:0<=gO)(t1:gO<=1000):
  ∀s:S,s.ag=s.n->l4 s->kk s 4 (kE 3 3) Q q->kk s 4 (kE 100 100) W w->kk s 1 yj B h'->r5 s (m3 λ_=>True) (a9 37 [v,.agg [.int .i64 gO,q,w,h']] s):=λs ae au a7 hw dE=>
 (ago (cv aS)).uD 1001 (by
  show aV _ (N0 a9 1001 v (.agg [.int .i64 gO,q,w,h']) s);unfold N0;simp only[cw];have h:=aX.nil ae au;have r:=h.bX;generalize eO:1001=F;have Aa:=aE.d;have CT:=aE.kh;have tu:=aE.bM;have C9:=Uc (q:=q) (w:=w) (h':=h') (B:=B) (gO:=gO) hm aE fE;have LC:=afm (q:=q) (w:=w) (h':=h') (B:=B) (gO:=gO) hm aE fE;have LD:=λ{R:qt} {rc:List V} (pn:Jk R rc) (z5:R.ok m.parts.length)=>afp (q:=q) (w:=w) (h':=h') (Q:=Q) (B:=B) (gO:=gO) hm aE fE hK pn z5;have kI:=hm;obtain ⟨d,p,r',k',rfl,J,U,aj,aH⟩:=hm;have we:∀ {j:Nat},j<m.parts.length-> ∃x y:Rat,∀s:S,s.ag=s.n->l4 s->kk s 4 (kE 3 3) Q q->r5 s (wW (cH 15 x) (cH 15 y)) (a9 75 [.agg [d,p,r',k'],q,.int .i64 j] s):=λ{j} aG=>by
   obtain ⟨dm,fg,fy,gH,ho⟩:=aE.parts _ (tX aG);exact ⟨_,_,Nh (w:=q) (q:=Q) kI (mA aG) gH (λc aa=>by have:=ho c aa;omega)⟩
  have pt:=aE.parts;have sn:=aE.zg;clear kI aE;have fF:=J.len;have gF:=U.len;have Q2:=aj.len;have Aq:=a7.len;have tw:=hw.len;have amm:=dE.len;have xT:=a7.bad;have zo:=hw.bad;have fin:∀ {t bc:S} {L:List b2} {n:Int},aX s t L->aV (r5 s (m3 λ_=>True)) (e5 true bc t [some (.int .i64 n)]):=λh=>Kn h rfl ⟨_,rfl,trivial⟩;have bC:=ar @Aq (ar @tw (ar @amm (ar @fF (ar @gF (ar @nv (ar @j6 @lg))))));repeat' first
   |refine cO ?_
   |refine cf h λ_ _ h r=>?_
   |refine Cw h (Uj (A:=3) (B:=3) D D D _ rfl h.g ((a7.mono h).aN)) (LX xT) (λ_ _ ⟨b,e,_⟩ h r=>?_);subst e;cases b
   |refine Cw h (Uj (A:=100) (B:=100) D D D _ rfl h.g ((hw.mono h).aN)) (LX zo) (λ_ _ ⟨b,e,_⟩ h r=>?_);subst e;cases b
   |exact fin h
   |refine Cv h (C9 _ rfl h.g ((dE.mono h).aN)) (Gt rfl rfl) (λxI s' _ ⟨c,e,aa⟩ h=>?_);subst e;have r:=h.bX;have nb:=(h.bx (.head _)).len
  have bC:= @nb;repeat' first
   |refine cO ?_
   |refine hO (λk vs t=> ∃j a b:Nat,vs=[.int .i64 j,xI,.ptr a 0,.ptr b 0]∧aX s t [.ca xI 4 1 m.h7.length c,.cM b [.int .i64 gO,q,w,h'] 33,.cM a [d,p,r',k'] 28]∧j+k=m.h7.length) m.h7.length ⟨0,_,_,rfl,h,D⟩ D ?_
  clear h r;rintro a3 k _ t ⟨j,a,b,rfl,h,mN⟩ cR;have r:=h.bX;by_cases aG:j<m.h7.length
  ·obtain ⟨oo,hW,aC,ba⟩:=h.hf (.head _) aa aG;have aC:=aC .i64;cases hW
   ·obtain ⟨pp,x,_,nr,jo,_,⟨b1,cq,cV,dn,rfl,fH⟩,_,_,_,_,fa,_⟩:=hw.p au (i:=(j:Int)) D D;have jo:=jo .i64;have aB:=Ng fH.hE;have bC:=ar @nb (ar @aC (ar @ba (ar @jo (ar @bT (ar @nv @lg)))));repeat' first
     |refine cO ?_
     |refine mM (by rw[fa _ _ h]) ?_
     |refine gr h aB (λz _=>?_);by_cases aY:z=0
     |exact fin h
     |exact cR (k - 1) _ _ D ⟨j+1,_,_,rfl,h,D⟩
   ·have bC:=ar @nb (ar @aC (ar @ba (ar @bT (ar @nv @j6))));repeat' first
     |refine cO ?_
     |exact cR (k - 1) _ _ D ⟨j+1,_,_,rfl,h,D⟩
  clear cR;have bC:= @nb;repeat' first
   |refine cO ?_
   |refine Cv h (LC _ rfl h.g ((dE.mono h).aN)) (Gt rfl rfl) (λeg s' _ ⟨l,jb,ps,e,amV,auF,QT,amU⟩ h=>?_);subst e;have r:=h.bX;have QV:=(h.bx (.head _)).len
  have bC:= @QV;repeat' first
   |refine cO ?_
   |refine hO (λk vs t=> ∃j a b:Nat,vs=[.int .i64 j,eg,xI,.ptr a 0,.ptr b 0]∧aX s t [.ca eg 100 2 l jb,.ca xI 4 1 m.h7.length c,.cM b [.int .i64 gO,q,w,h'] 33,.cM a [d,p,r',k'] 28]∧j+k=l) l ⟨0,_,_,rfl,h,D⟩ D ?_
  clear h r;rintro a3 k _ t ⟨j,a,b,rfl,h,mN⟩ cR;have r:=h.bX;by_cases aG:j<l
  ·obtain ⟨ck,as4,as8,anG,Rr,aC,ba,cd⟩:=h.xS (.head _) amV QT amU aG;have aC:=aC .i64;obtain ⟨_,_,aoN⟩:=we anG;obtain ⟨_,_,aoO⟩:=we Rr;obtain ⟨P,jS,lC,de,ej,_,_,dy⟩:=U.c1 (i:=(as4:Int)) D D;have dy:=dy .i64;obtain ⟨dm,fg,fy,gH,ho⟩:=pt P (hR de);obtain ⟨sp,fA,gC,gx,g4,gR,jd,l1,pK,kq,fQ,bM,jB,hL,bb,bU,cP,c7,rfl,dj,_,_,_,_⟩:=ej;obtain ⟨eR,atu,ac5,asx,asB,_,_,MG⟩:=U.c1 (i:=(as8:Int)) D D;have MG:=MG .i64;obtain ⟨AS,apC,apD,Sa,apE⟩:=pt eR (hR asx);obtain ⟨avM,as3,av8,av9,awa,awp,awq,awr,aws,atw,acO,avG,avH,avI,fk,iv,w7,zK,rfl,uC,_,_,_,_⟩:=asB;have aoB:=afo dj uC fy apD D D D D;clear C9 LC LD we pt sn gH ho Sa apE;have bC:=ar @QV (ar @aC (ar @ba (ar @cd (ar @anW (ar @dy (ar @MG (ar @hJ @bT)))))));repeat' first
    |refine cO ?_
    |refine mL h λ_ _ _ h r=>?_
    |refine Cx h (aoO _ rfl h.g ((a7.mono h).aN)) (xM rfl xT rfl) (λ_ _ _ _ ⟨_,_,_,_,_,_,_,_,aZ,ed,gu⟩ h r=>?_);subst aZ
    |refine Cx h (aoN _ rfl h.g ((a7.mono h).aN)) (xM rfl xT rfl) (λ_ _ _ _ ⟨_,_,_,_,_,_,_,_,aZ,k7,o0⟩ h r=>?_);subst aZ
    |refine ta h (Uk ed gu k7 o0) λ_ _ _ _ _ _ _ _ ⟨_,tI⟩ ⟨_,wj⟩=>?_;have s1:=dB (eC tI (eC wj Jx))
    |refine fN h cj (λ_ _ h r=>?_) (hx:=s1)
    |refine YB h aoB (λql bk EK _ ⟨es,dR,dF,k6,ly⟩ h r=>?_);subst dR
    |refine akx [] [.agg [_,_,_,_,_,_,_,_]] h (.here _ _) dF.atoms rfl (ahd tI wj) (λx' h3=>afn ⟨EK,h3,dF⟩ ly D tI wj) (λ_ _ ⟨b,e,_⟩ h r=>?_);subst e;cases b
    |exact fin h
    |exact cR (k - 1) _ _ D ⟨j+1,_,_,rfl,h.sub jq,D⟩
  clear cR;have bC:=ar @QV @nb;repeat' first
   |refine cO ?_
   |refine hO (λk vs t=> ∃j a b:Nat,vs=[.int .i64 j,xI,.ptr a 0,.ptr b 0]∧aX s t [.ca xI 4 1 m.h7.length c,.cM b [.int .i64 gO,q,w,h'] 33,.cM a [d,p,r',k'] 28]∧j+k=m.h7.length) m.h7.length ⟨0,_,_,rfl,h.sub jq,D⟩ D ?_
  clear h r;rintro a3 k _ t ⟨j,a,b,rfl,h,mN⟩ cR;have r:=h.bX;by_cases aG:j<m.h7.length
  ·obtain ⟨oo,hW,aC,ba⟩:=h.ahW (.head _) aa aG;have aC:=aC .i64;obtain ⟨aQ,Cb,rd,de,ej,ul,Tn,dy⟩:=J.c1 (i:=(j:Int)) D D;have dy:=dy .i64;have DC:=dB Tn;obtain ⟨i1,i2,i3,i4,bk,cn,dM,eU,fA,gC,gx,g4,gh,gQ,cD,jD,rfl,_,v1,v2⟩:=ej;obtain ⟨pp,x,_,nr,jo,_,⟨b1,cq,cV,dn,rfl,fH⟩,_,_,_,_,fa,_⟩:=a7.p au (i:=(j:Int)) D D;have jo:=jo .i64;have aB:=ub fH.hE v1.hE;have aT:=ub fH.hE v2.hE;obtain ⟨cy,hB⟩:∃b,decide (gN x aQ.lo<0)=b:=⟨_,rfl⟩;obtain ⟨cm,j0⟩:∃b,decide (0<gN x aQ.hi)=b:=⟨_,rfl⟩;obtain ⟨ajd,Ab⟩:∃b,aQ.bound=b:=⟨_,rfl⟩;rw[Ab]at dy DC;clear C9 LC LD we pt sn;cases hW
   ·have bC:=ar @nb (ar @aC (ar @dy (ar @hJ @bT)));repeat' first
     |refine cO ?_
     |refine cf h λ_ _ h r=>?_
     |refine mM (ba _ _ h eB) ?_
     |refine c9 h cj (λ_ h r=>?_) (hx:=DC)
     |exact cR (k - 1) _ _ D ⟨j+1,_,_,rfl,h.sub jq,D⟩
   cases ajd
   ·have bC:=ar @nb (ar @aC (ar @dy (ar @hJ @bT)));repeat' first
     |refine cO ?_
     |refine cf h λ_ _ h r=>?_
     |refine mM (ba _ _ h eB) ?_
     |refine c9 h cj (λ_ h r=>?_) (hx:=DC)
     |exact cR (k - 1) _ _ D ⟨j+1,_,_,rfl,h.sub jq,D⟩
   cases cy<;>cases cm;all_goals
    have bC:=ar @nb (ar @aC (ar @dy (ar @hJ (ar @bT (ar @jo (ar @hB @j0))))));repeat' first
     |refine cO ?_
     |refine cf h λ_ _ h r=>?_
     |refine mM (ba _ _ h eB) ?_
     |refine c9 h cj (λ_ h r=>?_) (hx:=DC)
     |refine mM (by rw[fa _ _ h]) ?_
     |refine gr h aB (λ_ e=>?_);subst e
     |refine gr h aT (λ_ e=>?_);subst e
     |exact fin h
     |exact cR (k - 1) _ _ D ⟨j+1,_,_,rfl,h.sub jq,D⟩
  clear cR;have bC:= @nb;repeat' first
   |refine cO ?_
   |refine hO (λk vs t=> ∃j a b:Nat,vs=[.int .i64 j,.ptr a 0,.ptr b 0]∧aX s t [.cM b [.int .i64 gO,q,w,h'] 33,.cM a [d,p,r',k'] 28]∧j+k=m.zg.length) m.zg.length ⟨0,_,_,rfl,h.sub jq,D⟩ D ?_
  clear h r;rintro a3 k _ t ⟨j,a,b,rfl,h,mN⟩ cR;have r:=h.bX;by_cases aG:j<m.zg.length
  ·obtain ⟨R,ai5,lC,de,ej,ul,Tn,dy⟩:=aj.c1 (i:=(j:Int)) D D;have dy:=dy .i64;have DC:=dB Tn;have z5:=sn R (hR de);have iV:=LD ej z5;obtain ⟨f1,f2,f3,f4,dj,dL,eH,e0,t1,t2,t3,t4,de,ej,MG,jc,dg,bk,cn,dM,eU,rfl,cL,cS,ds,gw,qK,GI⟩:=ej;have Qg:=qK.len;have m9:=z5.aP;have Aa:=z5.d8;clear C9 LC LD we pt sn;have bC:=ar @Q2 (ar @dy (ar @hJ @bT));repeat' first
    |refine cO ?_
    |refine cf h λ_ _ h r=>?_
    |refine c9 h cj (λ_ h r=>?_) (hx:=DC)
    |refine Cw h (iV _ rfl h.g ((a7.mono h).aN) ((dE.mono h).aN)) (xM rfl rfl rfl) (λ_ _ ⟨_,_,_,_,_,_,_,_,_,_,_,_,_,_,_,_,sL,aZ,ed,gu⟩ h r=>?_);subst aZ;have s1:=dB ed.at;have s2:=dB gu.at
    |refine c9 h cj (λ_ h r=>?_) (hx:=s1)
    |refine c9 h cj (λ_ h r=>?_) (hx:=s2)
    |refine hO (λk vs t=> ∃i g e f:Nat,vs=[.int .i64 i,.bool sL,.ptr g 0,.ptr e 0,.ptr f 0,.int .i64 j,.ptr a 0,.ptr b 0]∧aX s t [.cM g [_,_,_,_,_,_,_,_] 47,.cM e [_,_,_,_,_,_,_,_] 47,.cM f [_,_,_,_,_,_,_,_,_,_,_,_,_,_,_,_,_,_,_,_,_,_,_] 99,.cM b [.int .i64 gO,q,w,h'] 33,.cM a [d,p,r',k'] 28]∧i+k=R.zT.length) R.zT.length ⟨0,_,_,_,rfl,h,D⟩ D ?_
   clear h r;rintro xE k' _ t ⟨i,g,e,f,rfl,h,na⟩ lO;have r:=h.bX;by_cases hi:i<R.zT.length
   ·cases sL
    ·have bC:=ar @Qg @bT;repeat' first
      |refine cO ?_
      |exact cR (k - 1) _ _ D ⟨j+1,_,_,rfl,h.sub jq,D⟩
    ·obtain ⟨cB,ce,SG,v1,rfl,_,_,hz⟩:=qK.c1 (i:=(i:Int)) D D;have hz:=hz .i64;obtain ⟨e6,fo,g9,h4,p9,rF⟩:=m9 cB (hR v1);obtain ⟨⟨_,k7⟩,_,o0⟩:=ed;obtain ⟨⟨_,tI⟩,_,wj⟩:=gu;have dR:=Uk tI wj k7 o0;have dF:=yb (p:=cB.2.2) D;have bC:=ar @Qg (ar @hz (ar @hJ @bT));repeat' first
      |refine cO ?_
      |refine mL h λ_ _ _ h r=>?_
      |refine ta h dR λ_ _ _ _ _ _ _ _ ⟨_,gR⟩ ⟨_,jd⟩=>?_;have k6:=Um (X:=cB.1) (bJ:=cB.2.1) (H:=cB.2.2) D D gR jd
      |refine eN h k6 λ_ _ _ _ ⟨_,l1⟩=>?_
      |refine eN h dF λ_ _ _ _ pK=>?_
      |refine eN h (Ul l1 pK) λ_ _ _ _ ⟨_,wL⟩=>?_
      |refine fN h cj (λ_ _ h r=>?_) (hx:=wL.bL)
      |refine pj ?_
      |refine gr h (ub wL GI.hE) λz _=>?_;by_cases aY:0<z
      |exact fin h
      |exact lO (k' - 1) _ _ D ⟨i+1,_,_,_,rfl,h.sub jq,D⟩
   ·have bC:=ar @Qg @bT;repeat' first
     |refine cO ?_
     |exact cR (k - 1) _ _ D ⟨j+1,_,_,rfl,h.sub jq,D⟩
  ·have bC:= @Q2;repeat' first
    |refine cO ?_
    |exact fin h) D
end
section
theorem Kb{Q:ax->Prop}{a a8:ax}(h:aV Q a8)(e:∀R,aV R a8->aV R a:=by intro _;first|exact λh=>by simp only[AQ,AP];exact h|exact mM (by simp (disch:=first|omega|exact fW.of ib|assumption) only[fU,st,e2,bg,gm,r];exact rfl)|exact oU (by simp (disch:=first|omega|exact fW.of ib|assumption) only[fU,st,e2,bg,gm,r];exact rfl)|exact Cq (by simp (disch:=first|omega|exact fW.of ib|assumption) only[fU,st,e2,bg,gm,r];exact rfl)|exact Kh (by simp (disch:=first|omega|exact fW.of ib|assumption) only[fU,st,e2,bg,gm,r];exact rfl)|exact Kj (by simp (disch:=first|omega|exact fW.of ib|assumption) only[fU,st,e2,bg,gm,r];exact rfl)|exact Ki (by simp (disch:=first|omega|exact fW.of ib|assumption) only[fU,st,e2,bg,gm,r];exact rfl)|exact Kk (by simp (disch:=first|omega|exact fW.of ib|assumption) only[fU,st,e2,bg,gm,r];exact rfl)|exact Cz|exact Kr|exact Kp|exact Ks|exact Kq|exact Kg D|exact Kf D|exact Fk (mZ.of (by simp only[mR];decide+kernel))):aV Q a:=e Q h
theorem s9{Q:ax->Prop}{a a8:ax}(h:aV Q a8)(e:∀R,aV R a8->aV R a:=by intro _;first|exact λh=>by simp only[AQ,AP];exact h|exact mM (by simp (disch:=first|omega|exact fW.of ib|assumption) only[fU,st,e2,bg,gm,r,bC];exact rfl)|exact oU (by simp (disch:=first|omega|exact fW.of ib|assumption) only[fU,st,e2,bg,gm,r,bC];exact rfl)|exact Cq (by simp (disch:=first|omega|exact fW.of ib|assumption) only[fU,st,e2,bg,gm,r,bC];exact rfl)|exact Kh (by simp (disch:=first|omega|exact fW.of ib|assumption) only[fU,st,e2,bg,gm,r,bC];exact rfl)|exact Kj (by simp (disch:=first|omega|exact fW.of ib|assumption) only[fU,st,e2,bg,gm,r,bC];exact rfl)|exact Ki (by simp (disch:=first|omega|exact fW.of ib|assumption) only[fU,st,e2,bg,gm,r,bC];exact rfl)|exact Kk (by simp (disch:=first|omega|exact fW.of ib|assumption) only[fU,st,e2,bg,gm,r,bC];exact rfl)|exact Cz|exact Kr|exact Kp|exact Ks|exact Kq|exact Kg D|exact Kf D|exact Fk (mZ.of (by simp only[mR];decide+kernel))):aV Q a:=e Q h
section
variable {ao s:S}{L cu:List b2}{Q:ax->Prop}
theorem aX.ca{v:V}{e z l:Nat}{cs:List V}(h:aX ao s L)(u:b2.ca v e z l cs∈L):cl ao s e z v l cs:=h.ok _ u
theorem aX.sA{α:Type}{z e l:Nat}{R:α->List V->Prop}{xs:List α}{v:V}{cs:List V}(h:aX ao s L)(u:b2.ca v e z l cs∈L)(Z:xs.length=l)(aa:eX z R xs cs):kk (X.aN s) z R xs v:=⟨cs,by subst Z;exact (h.bx u).aN,aa⟩
theorem YK{K:V->S->ct->ax}{e z l b:Nat}{cs c:List V}{i:Nat}{r w:Reach}(h:aX ao s L)(u:qu L (.ca (.bx b 0 l l z) e z l cs) (.ca (.bx b 0 l l z) e z l (gp cs (i*z) c)) cu)(hi:i<l)(aY:c.length=z)(hx:c.all bL=true)
  (H:∀s' lo,aX ao s' cu->jF s' cu->aV Q (K .bad s' ⟨⟨r,w,lo,lo⟩,[]⟩)):aV Q (dp (e9 r w s (ef z (.ptr b (i*z)) (.agg c) (aN s))) K):=by
 obtain ⟨a4,bw,aZ,Y⟩:=(show cl ao s e z (.bx b 0 l l z) l cs from h.ok _ u.mem).qG D;cases aZ;have Z:cs.length=l*z:=(show cl ao s e z (.bx b 0 l l z) l cs from h.ok _ u.mem).cells;have hm:i*z+z<=cs.length:=by rw[Z,<-wN];exact x6 _ hi
 obtain ⟨s',aC,bb,bk,aB,_⟩:=Y.Sp (r:=r) (w:=w) h.loc aY hm hx;rw[aC,pX];have h':=h.up u bk aB (.cc b l _ bw bb (by rw[<-Z];unfold gp;simp only[hZ,kV,r2];omega)) (λb Y=>.inl Y);exact H _ _ h' h'.bX
theorem aX.mr{x:b2}{uc:List b2}(h:aX ao s L)(u:ji L x uc):aX ao s (x::uc):=by
 refine ⟨h.loc,λy aI=>?_,⟨λy aI b Y ft=>u.ju h.ju y aI b ft Y,h.ju.sub u.sub⟩,h.old,h.n3⟩;rcases hc.1 aI with rfl|aI
 exact h.ok _ u.mem;exact h.ok y (u.sub.subset aI)
theorem akN{K:V->S->ax}{e l:Nat}{v x:V}{cs:List V}{k:IntKind}{i:Int}(h:aX ao s L)(u:qu L (.ca v e 1 l cs) (.ca v e 1 l (cs.set i.toNat x)) cu)(aR:0<=i)(J:i<l)(hx:bL x=true)(H:∀s',aX ao s' cu->jF s' cu->aV Q (K .bad s')):
  aV Q (aF (dW 1 v (.int k i)) λp=>bZ (c6 s (ef 1 p x (aN s))) K):=by
 obtain ⟨p,aC,ba⟩:=yB (Q:=Q) (k:=k) h u aR J hx;rw[aC,w8];exact ba K H
theorem Cs{a:ax}{K:List V->S->ax}{I:List V->S->Prop}(U:(∀vs t,I vs t->aV Q (K vs t))->aV Q a)(J:∀vs t,I vs t->aV Q (K vs t)):aV Q a:=U J
theorem akL{P:V->Prop}{a:Int}{x y z:V}{bk cn dM aC ba cd:Nat}{cy cm dc:List V}(h:aX ao s L)(ae:ao.ag=ao.n)(de:b2.ca x aC 4 bk cy∈L)(ej:b2.ca y ba 4 cn cm∈L)(dy:b2.ca z cd 1 dM dc∈L)(b1:cy.all atom=true)(cq:cm.all atom=true)(cV:dc.all atom=true)
  (al:∀x' dY mW,dz 4 x' bk cy->dz 4 dY cn cm->dz 1 mW dM dc->P (.agg [.int .i64 a,x',dY,mW])):aV (eE ao P) (bB ao s [some (.agg [.int .i64 a,x,y,z])]):=by
 have dm:cl ao s aC 4 x bk cy:=h.ok _ de;have fg:cl ao s ba 4 y cn cm:=h.ok _ ej;have fy:cl ao s cd 1 z dM dc:=h.ok _ dy;obtain ⟨x',bb,J,U,rfl⟩:=dm.gl b1;obtain ⟨dY,bU,aj,aH,rfl⟩:=fg.gl cq;obtain ⟨mW,cP,bD,cF,rfl⟩:=fy.gl cV;refine ⟨_,al x' dY mW U aH cF,E4 (.cons _ _ _ _ _ _ (.at _ rfl) (.cons _ _ _ _ _ _ J (.cons _ _ _ _ _ _ aj (.cons _ _ _ _ _ _ bD .nil)))) ae h.loc (λc aa=>?_)⟩;simp only[hp,hd,mB]at aa;rcases aa with aa|aa|aa
 exact (dm.lo aa).1;exact (fg.lo aa).1;exact (fy.lo aa).1
end
def WB(s t:S)(aL k8:Nat)(M:List V)(a b g:Nat):Prop:= ∃(x y z:V) (a9 rh lL:List V) (Q W:List Rat) (gO:Int),aX s t [.cM g [.int .i64 gO,x,y,z] 33,.ca z 4 1 k8 lL,.ca y 45 4 aL rh,.ca x 45 4 aL a9,.cM b [.int .i64 0,.af,.af,.af] 33,.cM a M 28]∧Q.length=aL∧W.length=aL∧eX 4 (kE 3 3) Q a9∧eX 4 (kE 100 100) W rh∧mY k8 lL∧0<=gO∧gO<=1000
theorem aqO(p:Int)(k:Nat)(hk:k≠0):fh p.natAbs k ((p:Rat) / ((k:Int):Rat)):=by
 have:=mk_le p hk;rw[Rat.mkRat_eq_div]at this;exact this
theorem Ua{A B:Nat}{p q:Int}(al:p.natAbs<=A)(aR:0<q)(a7:q.toNat<=B)(gW:A<1000000000:=by omega)(fE:B<1000000000:=by omega):cI 28 [.int .i64 p,.int .i64 q] (jh (db A B ((p:Rat) / (q:Rat)))):=by
 obtain ⟨k,rfl⟩:∃k:Nat,q=k:=⟨q.toNat,D⟩;have J:=q2 (p:=p) (q:=(k:Int)) D D D;have U:=(aqO p k D).mono (fi:=A) (B':=B) al D;exact ⟨λs ae au=>let ⟨v,⟨a,b,c,d,e,h⟩,h'⟩:=J.1 s ae au;⟨v,⟨a,b,c,d,e,h.1,U⟩,h'⟩,J.2⟩
attribute [local irreducible] jj bZ dp aF gZ cJ et c6 e9 eT aW aw cT bB e5 fD ef gv fl eV fe aV
theorem afk{m:kl}{v u:V}{l:List Int}(hm:nD m v)(aE:m.ok)(hu:bV .i64 u l)(yS:∀x,x∈l->ez x):cI 6 [v,u] (λr=> ∃t,wZ t r∧t.ok m):=⟨λs ae au=>
 (agw (cv aS)).ee 1001 (by
  show aV _ (N6 a9 1001 v u s);unfold N6;simp only[cw];have h:=aX.nil ae au;have r:=h.bX;generalize eO:1001=F;have aaV:=ae9 hm aE;have tC:=λ(i m:Int) (aR:0<m) (J:m<=1000000)=>Ub hu yS (i:=i) aR J;have C9:=λ{q w h':V} {B:List Bool} {gO:Int} =>Uc (q:=q) (w:=w) (h':=h') (B:=B) (gO:=gO) hm aE;have aoz:=λ{q w h':V} {Q W:List Rat} {B:List Bool} {gO:Int} =>afb (q:=q) (w:=w) (h':=h') (Q:=Q) (W:=W) (B:=B) (gO:=gO) hm aE;have Aa:=aE.d;have CT:=aE.kh;have nN:=aE.e1;obtain ⟨d,p,r',k',rfl,J,U,aj,aH⟩:=hm;have fF:=J.len;have gF:=U.len;clear aE J U aj aH;generalize An:m.h7.length=aL at*;generalize K5:m.parts.length=k8 at*;apply Cs (I:=λvs t=> ∃a b g,vs=[.ptr a 0,u,.ptr g 0,.ptr b 0]∧WB s t aL k8 [d,p,r',k'] a b g)
  ·intro key;have bC:=ar @fF (ar @gF @bT);repeat' first
    |refine s9 ?_
    |refine cf h λ_ _ h r=>?_
    |refine Cv h (aaV _ rfl h.g) (LX rfl) (λ_ _ _ ⟨x,y,z,a9,rh,lL,aC,ba,qA,m7,hK,m6,aY⟩ h=>?_);subst aC ba;simp only[sQ,hp]at h;have r:=h.bX;have A2:=DE (a:=0) (h.c0 (v:=x) eB) (h.c0 (v:=y) eB) (h.c0 (v:=z) eB)
    |refine c9 h cj (λ_ h r=>?_) (hx:=A2)
    |refine gr h (tC 0 9 aS aS) λgO ⟨avQ,avR⟩=>?_
    |refine p1 h cj rfl (λ_ h r=>?_)
    |refine gr h (tC 1 5 aS aS) λn _=>?_;by_cases a5:n=0<;>by_cases tr:2<k8
    |refine za _ key λj aG=>?_
    |refine akN h cj D D rfl λ_ h r=>?_
    |exact aG _ _ ⟨_,_,_,rfl,_,_,_,_,_,_,_,_,_,h,qA,m7,hK,m6,aY.set _ _,D,D⟩
    |exact aG _ _ ⟨_,_,_,rfl,_,_,_,_,_,_,_,_,_,h,qA,m7,hK,m6,aY,D,D⟩
  clear aaV;rintro _ t ⟨a,b,g,rfl,st⟩;have r:True:=trivial;repeat' first
   |refine iG ?_
   |refine hO (λk vs t=> ∃j a b g:Nat,vs=[.int .i64 j,.ptr a 0,u,.ptr g 0,.ptr b 0]∧WB s t aL k8 [d,p,r',k'] a b g∧j+k=aL) aL ⟨0,a,b,g,rfl,st,D⟩ D ?_
  clear st;rintro a3 k _ t ⟨j,a,b,g,rfl,⟨x,y,z,a9,rh,lL,Q,W,gO,h,qA,m7,hK,m6,aY,i1,i2⟩,mN⟩ cR;have r:=h.bX;obtain ⟨bs,n6,sh⟩:=aY.re;by_cases aG:j<aL
  ·have bC:=ar @fF @bT;repeat' first
    |refine cO ?_
    |refine cf h λ_ _ h r=>?_
    |refine gr h (tC _ 12 aS aS) λn ⟨ia,ed⟩=>?_;by_cases a5:n<4
    |refine Cv h (afa D D D _ rfl h.g (h.sA eB qA hK) (h.sA eB m7 m6) (h.sA eB n6 sh)) (LX rfl) (λ_ _ _ ⟨x',dY,mW,nH,md,aty,aC,ba,_,_,alc,CG,Rt⟩ h=>?_);subst aC ba;simp only[sQ,hp,n6,qA,m7]at h;rw[n6]at Rt;obtain ⟨pY,Zp,alQ⟩:=Rt.re;obtain ⟨cM,bw,cd,_⟩:=(h.ca (v:=x') (e:=45) (z:=4) (l:=aL) (cs:=nH) eB).qG D;subst cd;have hl:=px (b:=cM) (o:=0) (l:=aL) (c:=aL) (mW:=4) (z:=4) .i64 (i:=(j:Int)) D D;rw[gD,dZ]at hl;have r:=h.bX;have A2:=DE (a:=gO) (h.c0 (v:=.bx cM 0 aL aL 4) eB) (h.c0 (v:=dY) eB) (h.c0 (v:=mW) eB)
    |refine c9 h cj (λ_ h r=>?_) (hx:=A2)
    |refine Cq (by rw[hl]) ?_
    |refine eN h (Ua (A:=3) (B:=3) (p:=2*n - 3) (q:=2+n % 2) D D D) λ_ _ _ _ o=>?_;have Y3:=alc.set (i:=j) D ⟨_,_,_,_,rfl,o⟩ rfl o.atoms
    |refine YK h cj D rfl (dB o.atoms) (λ_ _ h r=>?_)
    |refine Cw h (aoz (by simp[qA]) m7 Zp i1 i2 _ rfl h.g (h.sA eB (by simp[qA]) Y3) (h.sA eB m7 CG) (h.sA eB Zp alQ)) (Gt rfl rfl) (λ_ _ ⟨e,aC,_⟩ h r=>?_);subst aC;by_cases he:e=0
    |have mi:e=0:=he;exact cR (k - 1) _ _ D ⟨j+1,_,_,_,rfl,⟨_,_,_,_,_,_,_,W,gO,(h.mr (x:=.cM g _ 33) hG).sub jq,by simp[qA],m7,Y3,CG,Rt,i1,i2⟩,D⟩
    |exact cR (k - 1) _ _ D ⟨j+1,_,_,_,rfl,⟨_,_,_,_,_,_,Q,W,gO,h.sub jq,qA,m7,hK,m6,aY,i1,i2⟩,D⟩
  clear cR;have bC:= @fF;repeat' first
   |refine cO ?_
   |refine Cv h (C9 n6 _ rfl h.g (h.sA eB n6 sh)) (Gt rfl rfl) (λxI _ _ ⟨c,e,aa⟩ h=>?_);subst e;simp only[sQ,hp]at h;have r:=h.bX
   |refine hO (λk vs t=> ∃j:Nat,vs=[.int .i64 j,.ptr a 0,u,_,.ptr g 0,.ptr b 0]∧(∃rh W,aX s t [.ca _ 4 1 aL _,.cM g [.int .i64 gO,x,y,z] 33,.ca z 4 1 k8 lL,.ca y 45 4 aL rh,.ca x 45 4 aL a9,.cM b [.int .i64 0,.af,.af,.af] 33,.cM a [d,p,r',k'] 28]∧W.length=aL∧eX 4 (kE 100 100) W rh)∧j+k=aL) aL ⟨0,rfl,⟨rh,W,h,m7,m6⟩,D⟩ D ?_
  clear h r m6 m7;rintro a3 k _ t ⟨j,rfl,⟨rh,W,h,m7,m6⟩,mN⟩ cR;have r:=h.bX;by_cases aG:j<aL
  ·obtain ⟨oo,hW,aC,ba⟩:=h.hf (.head _) aa aG;have aC:=aC .i64;obtain ⟨cM,bw,rfl,_⟩:=(h.ca (v:=y) (e:=45) (z:=4) (l:=aL) (cs:=rh) eB).qG D;have hl:=px (b:=cM) (o:=0) (l:=aL) (c:=aL) (mW:=4) (z:=4) .i64 (i:=(j:Int)) D D;rw[gD,dZ]at hl;cases hW
   ·have bC:=ar @fF (ar @bT (ar @aC @ba));repeat' first
     |refine cO ?_
     |refine gr h (tC _ 20 aS aS) λn ⟨ia,ed⟩=>?_
     |exact cR (k - 1) _ _ D ⟨j+1,rfl,⟨rh,W,h,m7,m6⟩,D⟩
   ·have bC:=ar @fF (ar @bT (ar @aC (ar @ba @hl)));repeat' first
     |refine cO ?_
     |refine gr h (tC _ 20 aS aS) λn ⟨ia,ed⟩=>?_;by_cases a5:n<12
     |refine eN h (Ua (A:=100) (B:=100) (p:=n - 5) (q:=4) D D aS) λ_ _ _ _ o=>?_;have Y9:=m6.set (i:=j) D ⟨_,_,_,_,rfl,o⟩ rfl o.atoms
     |refine YK h cj D rfl (dB o.atoms) (λ_ _ h r=>?_)
     |exact cR (k - 1) _ _ D ⟨j+1,rfl,⟨_,_,h,by simp[m7],Y9⟩,D⟩
     |exact cR (k - 1) _ _ D ⟨j+1,rfl,⟨_,W,h,m7,m6⟩,D⟩
  ·have bC:= @fF;repeat' first
    |refine cO ?_
    |refine c9 h cj (λ_ h r=>?_) (hx:=DE (h.c0 eB) (h.c0 eB) (h.c0 eB))
    |exact akL h ae eB eB eB hK.atoms m6.atoms aY.atoms λx' dY mW f1 f2 f3=>⟨⟨gO,Q,W,bs⟩,⟨_,_,_,rfl,⟨a9,by rw[qA];exact f1,hK⟩,⟨_,by rw[m7];exact f2,m6⟩,⟨lL,by rw[n6];exact f3,sh⟩⟩,⟨i1,i2,qA.trans An.symm,m7.trans An.symm,n6.trans K5.symm⟩⟩) D,by show (a2 _ && (a2 u && true))=true;rw[hm.a2,hu.a2];rfl⟩
end
section
theorem vL{f:V->Option (V×List Nat)} :∀ {a b a8 a4:List V} {x y:List Nat},iy f a=some (a8,x)->iy f b=some (a4,y)->iy f (a++b)=some (a8++a4,x++y)
 |[],b,a8,a4,x,y,h,h'=>by
  simp only[iy,cU,c4]at h;obtain ⟨rfl,rfl⟩:=h;exact h'
 |v::a,b,_,a4,_,y,h,h'=>by
  unfold iy at h;split at h;cases h;rename_i v' bs ad;split at h;cases h;rename_i r cs E;cases h;rw[sQ];unfold iy;simp only[ad,vL E h',sQ,vl]
theorem zX{f:V->Option (V×List Nat)}{v v':V}{b:List Nat}(h:f v=some (v',b)):iy f [v]=some ([v'],b++ []):=by
 unfold iy;rw[h];rfl
section
variable {ao s:S}{L b3:List b2}{α:Type}{z e l n:Nat}{R:α->List V->Prop}{xs:List α}{v:V}{cs cs':List V}{bs:List Nat}
theorem cl.Yu(h:cl ao s e z v l cs)(aa:iy (X.fq s n) cs=some (cs',bs))(Z:cs'.length=cs.length)(Y:∀b,b∈bs->ao.n<=b):∃v' pY,X.fq s (n+1) v=some (v',pY)∧dz z v' l cs'∧ ∀b,b∈pY->ao.n<=b:=by
 cases h with
 |nil=>
  simp only[iy,cU,c4]at aa;obtain ⟨rfl,rfl⟩:=aa;exact ⟨.af,[],yw rfl s n,.nil,λ_ h=>by cases h⟩
 |cc b l cs bw h kb=>
  have J:Nat.ble l l=true:=Nat.ble_self_eq_true l;refine ⟨.fs cs' l,r8 s b bs,?_,.mk _ _ D,λc aa=>?_⟩;show (match Nat.ble l l with
   |false=>none
   |true=>match qh s b 0 (l*z) with
    |none=>none
    |some cs=>match iy (X.fq s n) cs with
     |some (cs,bs)=>some (V.fs cs l,r8 s b bs)
     |none=>none)=_
  rw[J,AY h.get D];simp only[show (cs.drop 0).take (l*z)=cs by rw[<-kb];simp,aa];unfold r8 at aa;rw[h.get]at aa;rcases hc.1 aa with rfl|aa
  exact h.lo;exact Y c aa
theorem vx.fq(h:vx b3 z R xs v)(hm:aX ao s L)(hx:kX b3 L):∃v' bs,(∀n,X.fq s (n+2) v=some (v',bs))∧fY z R xs v'∧ ∀b,b∈bs->ao.n<=b:=by
 obtain ⟨cs,J,U|⟨e,U⟩⟩:=h;exact ⟨v,[],λn=>yw U.atom s (n+1),⟨cs,U,J⟩,λ_ h=>by cases h⟩;have aE:cl ao s e z v xs.length cs:=hm.ok _ (hx _ _ _ _ _ U);obtain ⟨v',bs,aj,aH,rfl⟩:=aE.gl J.atoms;exact ⟨v',_,λn=>aj.fq n,⟨cs,aH,J⟩,λb Y=>(aE.lo Y).1⟩
theorem qc{P:Nat->Prop}{a b:List Nat}(av:∀x,x∈a->P x)(Y:∀x,x∈b->P x):∀x,x∈a++b->P x:=λx hx=>(mB.1 hx).elim (av x) (Y x)
theorem rJ{P:Nat->Prop} :∀x,x∈([]:List Nat)->P x:=λ_ h=>by cases h
theorem q5.fq{p:gT}{c:List V}(h:q5 b3 p c)(hm:aX ao s L)(hx:kX b3 L):∃bj bs,(∀n,iy (X.fq s (n+2)) c=some (bj,bs))∧Ox p bj∧bj.length=18∧bj.all atom=true∧ ∀b,b∈bs->ao.n<=b:=by
 obtain ⟨iO,fA,gC,gx,g4,gh,gQ,cD,jD,kq,fQ,bM,jB,hL,bb,bU,cP,c7,rfl,J,U,aj,aH,bD,_,_⟩:=h;obtain ⟨s1,de,aB,dR,dm⟩:=J.fq hm hx;obtain ⟨cy,ej,aT,dF,fg⟩:=aH.fq hm hx;have b1:([fA,gC,gx,g4,gh,gQ,cD,jD]:List V).all atom=true:=j8 U.atoms aj.atoms;refine ⟨[s1]++([fA,gC,gx,g4,gh,gQ,cD,jD]++([cy]++ [fQ,bM,jB,hL,bb,bU,cP,c7])),_,λn=>vL (zX (aB n)) (vL (yv s (n+1) b1) (vL (zX (aT n)) (yv s (n+1) bD))),⟨_,_,_,_,_,_,_,_,_,_,_,_,_,_,_,_,_,_,rfl,dR,U,aj,dF,bD⟩,rfl,?_,qc (qc dm rJ) (qc rJ (qc (qc fg rJ) rJ))⟩;exact j8 (a:=[s1]) (by rw[gS,dR.atom];rfl) (j8 b1 (j8 (a:=[cy]) (by rw[gS,dF.atom];rfl) bD))
theorem ky.fq{ps:List gT}{c:List V}(h:ky b3 ps c)(hm:aX ao s L)(hx:kX b3 L):∃bj bs,(∀n,iy (X.fq s (n+2)) c=some (bj,bs))∧eX 18 Ox ps bj∧ ∀b,b∈bs->ao.n<=b:=by
 induction h with
 |nil=>exact ⟨[],[],λ_=>rfl,.nil,rJ⟩
 |cons p c ps cs h _ a3=>
  obtain ⟨cy,de,aB,dR,bk,b1,dm⟩:=h.fq hm hx;obtain ⟨cm,ej,aT,dF,fg⟩:=a3;exact ⟨_,_,λn=>vL (aB n) (aT n),.cons _ _ _ _ dR bk b1 dF,qc dm fg⟩
end
def SK(x y:Rat):qt:=⟨0,1,x,0,0,0,[(0,1,1),(3,4,5),(1,0,1)],y⟩
def JW:List V:=[.int .i64 0,.int .i64 1,.int .i64 1,.int .i64 3,.int .i64 4,.int .i64 5,.int .i64 1,.int .i64 0,.int .i64 1]
def w0(b3:List b2)(rs:List qt)(gM:V):Prop:=(rs=[]∧gM=.af)∨ ∃(x y:Rat) (f1 f2 f3 f4 eZ bk cn dM eU:V),rs=[SK x y]∧
 b2.ca gM 99 23 1 [.int .i64 0,.int .i64 1,f1,f2,f3,f4,.bool false,.af,.bool false,.af,.bool false,.af,.bool false,.af,.bool false,.af,.bool false,.af,eZ,bk,cn,dM,eU]∈b3∧b2.ca eZ 94 3 3 JW∈b3∧db 100 100 x f1 f2 f3 f4∧db 1000 1000 y bk cn dM eU
def BF(b3:List b2)(ni:List (Int×Int))(j2:V):Prop:=(ni=[]∧j2=.af)∨(ni=[(1,2)]∧b2.ca j2 100 2 1 [.int .i64 1,.int .i64 2]∈b3)
theorem aiT:eX 3 Em [((0:Int),(1:Int),(1:Int)),(3,4,5),(1,0,1)] JW:=
 .cons _ [.int .i64 0,.int .i64 1,.int .i64 1] _ _ rfl rfl rfl (.cons _ [.int .i64 3,.int .i64 4,.int .i64 5] _ _ rfl rfl rfl (.cons _ [.int .i64 1,.int .i64 0,.int .i64 1] _ [] rfl rfl rfl .nil))
section
variable {ao s:S}{L b3 bJ:List b2}
theorem w0.mono{rs:List qt}{gM:V}(h:w0 b3 rs gM)(ae:kX b3 bJ):w0 bJ rs gM:=h.imp id λ⟨x,y,f1,f2,f3,f4,eZ,bk,cn,dM,eU,aR,J,U,aj⟩=>⟨x,y,f1,f2,f3,f4,eZ,bk,cn,dM,eU,aR,ae _ _ _ _ _ J,ae _ _ _ _ _ U,aj⟩
theorem w0.fq{rs:List qt}{gM:V}(h:w0 b3 rs gM)(hm:aX ao s L)(hx:kX b3 L):∃v' bs,X.fq s 23 gM=some (v',bs)∧fY 23 Jk rs v'∧ ∀b,b∈bs->ao.n<=b:=by
 rcases h with ⟨rfl,rfl⟩|⟨x,y,f1,f2,f3,f4,eZ,bk,cn,dM,eU,rfl,J,U,aj,aH⟩
 exact ⟨.af,[],yw rfl s 22,.nil,rJ⟩;have aE:cl ao s 99 23 gM 1 _:=hm.ok _ (hx _ _ _ _ _ J);obtain ⟨d1,de,aB,dR,dm⟩:=vx.fq (ao:=ao) (s:=s) (b3:=b3) (R:=Em) (xs:=[((0:Int),(1:Int),(1:Int)),(3,4,5),(1,0,1)]) ⟨JW,aiT,.inr ⟨94,U⟩⟩ hm hx;have b1:([.int .i64 0,.int .i64 1,f1,f2,f3,f4,.bool false,.af,.bool false,.af,.bool false,.af,.bool false,.af,.bool false,.af,.bool false,.af]:List V).all atom=true:=j8 (a:=[.int .i64 0,.int .i64 1]) rfl (j8 aj.atoms rfl);have aC:=vL (yv s 21 b1) (vL (zX (aB 20)) (yv s 21 aH.atoms));obtain ⟨v',pY,bD,cF,dV⟩:=aE.Yu (n:=22) aC rfl (qc rJ (qc (qc dm rJ) rJ));refine ⟨v',pY,bD,⟨_,cF,.one ⟨_,_,_,_,_,_,_,_,_,_,_,_,_,_,_,_,_,_,_,_,_,rfl,aj,Hg,Hg,Hg,dR,aH⟩ rfl ?_⟩,dV⟩;exact j8 b1 (j8 (a:=[d1]) (by rw[gS,dR.atom];rfl) aH.atoms)
theorem BF.fq{ni:List (Int×Int)}{j2:V}(h:BF b3 ni j2)(hm:aX ao s L)(hx:kX b3 L):∃v' bs,X.fq s 23 j2=some (v',bs)∧fY 2 l7 ni v'∧ ∀b,b∈bs->ao.n<=b:=by
 rcases h with ⟨rfl,rfl⟩|⟨rfl,J⟩
 exact ⟨.af,[],yw rfl s 22,.nil,rJ⟩;obtain ⟨d1,de,aB,dR,dm⟩:=vx.fq (ao:=ao) (s:=s) (b3:=b3) (R:=l7) (xs:=[((1:Int),(2:Int))]) ⟨_,.one rfl rfl rfl,.inr ⟨100,J⟩⟩ hm hx;exact ⟨d1,de,aB 21,dR,dm⟩
theorem aj3{s s':S}{l l':List V}{bs:List Nat}(h:iy (X.fq s' 23) l=some (l',bs))(J:s.ag=s.n)(Z:Loc s s')(Y:∀b,b∈bs->s.n<=b):bB s s' [some (.agg l)]=some (.agg l',s):=by
 unfold bB;show some (packed s s' (.agg l))=_;unfold packed;have aa:(Nat.ble s.n s.ag && Nat.ble s.n s'.ag)=true:=by simp only[dU,eu];exact ⟨D,Z.eK⟩
 simp only[aa];show some (match rQ s s' (.agg l) with
  |some r=>r
  |none=>(.agg l,s'))=_
 unfold rQ;have:X.fq s' 24 (.agg l)=some (.agg l',bs):=by
  show (match iy (X.fq s' 23) l with
   |some (cs,bs)=>some (V.agg cs,bs)
   |none=>none)=_
  rw[h]
 rw[this];simp only[R8 Y]
theorem akO{P:V->Prop}{eZ eg gM j2:V}{dg:List qo}{ps:List gT}{rs:List qt}{ni:List (Int×Int)}{jk jb:List V}(h:aX ao s L)(ae:ao.ag=ao.n)(de:b2.ca eZ 130 17 dg.length jk∈L)(ej:b2.ca eg 88 18 ps.length jb∈L)(hx:kX b3 L)(ai:eX 17 ug dg jk)(al:ky b3 ps jb)(E:w0 b3 rs gM)(hk:BF b3 ni j2)
  (cQ:∀w,nD ⟨dg,ps,rs,ni⟩ w->P w):aV (eE ao P) (bB ao s [some (.agg [eZ,eg,gM,j2])]):=by
 have dm:cl ao s 130 17 eZ dg.length jk:=h.ok _ de;have fg:cl ao s 88 18 eg ps.length jb:=h.ok _ ej;obtain ⟨bK,bb,aC,f1,rfl⟩:=dm.gl ai.atoms;obtain ⟨L8,bU,ba,cm,cn⟩:=al.fq h hx;obtain ⟨dA,iv,ajA,f2,LL⟩:=fg.Yu (n:=22) (ba 20) (by rw[cm.len,al.len]) cn;obtain ⟨r',cP,cd,f3,dM⟩:=E.fq h hx;obtain ⟨k',c7,ff,f4,eU⟩:=hk.fq h hx;exact ⟨_,cQ _ ⟨bK,dA,r',k',rfl,⟨_,f1,ai⟩,⟨_,f2,cm⟩,f3,f4⟩,aj3 (vL (zX (aC.fq 21)) (vL (zX ajA) (vL (zX cd) (zX ff)))) ae h.loc (qc (qc (λb Y=>(dm.lo Y).1) rJ) (qc (qc LL rJ) (qc (qc dM rJ) (qc eU rJ))))⟩
end
theorem gT.ok.mono{p:gT}{n m:Nat}(h:p.ok n)(hm:n<=m):p.ok m:=⟨h.s1,h.wA,h.c5,h.dc,λc aa=>r0 (h.Cb c aa) hm⟩
end
section
def Ei(s t:S)(be er:Nat)(eZ eg gM j2:V)(dg:List qo)(ps:List gT)(rs:List qt)(ni:List (Int×Int))(X:List b2):Prop:=
 ∃jk jb,aX s t (.cM be [eZ,eg,gM,j2] 28:: .cM er [.af,.af,.af,.af] 28:: .ca eg 88 18 ps.length jb:: .ca eZ 130 17 dg.length jk::X)∧X.all b2.u3=true∧eX 17 ug dg jk∧ky X ps jb∧(∀P,P∈ps->P.ok dg.length)∧w0 X rs gM∧BF X ni j2
theorem ahT{c5:List (Int×Int)}(h:Jm c5)(k:Nat)(x y:Int)(w:Bool):(B3 k c5 x y w).ok (k+(zL w).length):=by
 refine ⟨by have:=h.dM;show 1<=c5.length;omega,h.il,h.b,by cases w<;>simp[B3],λc aa=>?_⟩;cases w;simp[B3,Ce,JS]at aa;rcases aa with rfl|rfl<;>simp[zL]
 simp[B3,Ce,JS,ek]at aa;rcases aa with rfl|rfl|rfl<;>simp[zL]
section
variable {ao s:S}{L X:List b2}
theorem aX.aqq{v:V}{e l:Nat}{ps:List gT}{c:List V}(h:aX ao s L)(u:b2.ca v e 18 l c∈L)(Z:ps.length=l)(aa:ky X ps c){i:Nat}(hi:i<l):
  ∃b p jS,(∀k,dW 18 v (.int k i)=some (.ptr b (i*18)))∧ps[i]? =some p∧q5 X p jS∧bf 18 s (.ptr b (i*18))=some (.agg jS):=by
 subst Z;obtain ⟨b,bw,rfl,Y⟩:=(show cl ao s e 18 v ps.length c from h.ok _ u).qG D;obtain ⟨p,jS,r,U,aj,cF⟩:=aa.at hi;have hm:i*18+18<=c.length:=by rw[aa.len];omega
 refine ⟨b,p,jS,λk=>?_,U,aj,?_⟩;have:=px (b:=b) (o:=0) (l:=ps.length) (c:=ps.length) (mW:=18) (z:=18) k (i:=(i:Int)) D D
 rwa [gD,dZ]at this
 rw[kN Y.rd hm,cF,List.take_left' aj.c0.2]
theorem apd{ql:V}{l:List V}{x y n:Int}{w:Bool}(h:en ql=false): [.agg l,ql,.int .i64 x,.int .i64 y,.int .i64 n,.bool w].any en=false:=by
 show (false || (en ql || (false || (false || (false || (false || false))))))=false;rw[h];rfl
theorem kX.bU{x y:Nat}{a b:List V}{m n:Nat}{X:List b2} :kX (.cM x a m:: .cM y b n::X) X:=λv e z l c h=>by
 cases h with
 |tail _ h=>cases h with
  |tail _ h=>exact h
theorem kX.cy{X bJ:List b2}{x:b2}(h:kX X bJ):kX (x::X) (x::bJ):=λv e z l c hm=>by
 cases hm with
 |head=>exact .head _
 |tail _ hm=>exact .tail _ (h _ _ _ _ _ hm)
end
theorem ao6{ps:List gT}{P:gT}{n m:Nat}(h:∀p,p∈ps->p.ok n)(hm:n<=m)(cQ:P.ok m):∀p,p∈ps++ [P]->p.ok m:=zH (λp al=>(h p al).mono hm) cQ
theorem ao7{ps:List gT}{P eR:gT}{n m:Nat}(h:∀p,p∈ps->p.ok n)(hm:n<=m)(cQ:P.ok m)(tg:eR.ok m):∀p,p∈ps++ [P,eR]->p.ok m:=λp al=>by
 rcases mB.1 al with al|al
 exact (h p al).mono hm;simp at al;rcases al with rfl|rfl
 exact cQ;exact tg
theorem w0.c0{ao s:S}{b3 L:List b2}{rs:List qt}{gM:V}(h:w0 b3 rs gM)(hm:aX ao s L)(hx:kX b3 L):bL gM=true:=by
 rcases h with ⟨_,rfl⟩|⟨x,y,f1,f2,f3,f4,eZ,bk,cn,dM,eU,_,J,_⟩
 rfl;exact hm.c0 (hx _ _ _ _ _ J)
theorem BF.c0{ao s:S}{b3 L:List b2}{ni:List (Int×Int)}{j2:V}(h:BF b3 ni j2)(hm:aX ao s L)(hx:kX b3 L):bL j2=true:=by
 rcases h with ⟨_,rfl⟩|⟨_,J⟩
 rfl;exact hm.c0 (hx _ _ _ _ _ J)
theorem aqU(x y:Rat){n:Nat}(h:2<=n):(SK x y).ok n:=⟨by show (0:Int)<=0;decide,by show (0:Int)<n;omega,by show (-1:Int)<=1;decide,by show (1:Int)<n;omega,by show 3<=8;decide,by show ∀x,x∈ [((0:Int),(1:Int),(1:Int)),(3,4,5),(1,0,1)]->_;decide⟩
theorem aqV{x:Rat}{n:Nat}{f1 f2 f3 f4 eZ bk cn dM eU:V}{y:Rat}{A B:Nat}(J:db A B x f1 f2 f3 f4)(U:bL eZ=true)(aj:cH n y bk cn dM eU):([.int .i64 0,.int .i64 1,f1,f2,f3,f4,.bool false,.af,.bool false,.af,.bool false,.af,.bool false,.af,.bool false,.af,.bool false,.af,eZ,bk,cn,dM,eU]:List V).all bL=true:=
 j8 (a:=[.int .i64 0,.int .i64 1]) rfl (j8 (dB J.atoms) (j8 (a:=[.bool false,.af,.bool false,.af,.bool false,.af,.bool false,.af,.bool false,.af,.bool false,.af]) rfl (uj U (w5 aj rfl))))
attribute [local irreducible] jj bZ dp aF gZ cJ et c6 e9 eT aW aw cT bB e5 fD ef gv fl eV fe aV
theorem afh{v:V}{l:List Int}(ad:bV .i64 v l)(yS:∀x,x∈l->ez x):cI 5 [v] (λr=> ∃m,nD m r∧m.ok):=⟨λs ae au=>
 (ags (cv aS)).ee 1001 (by
  show aV _ (N4 a9 1001 v s);unfold N4;simp only[cw];have h:=aX.nil ae au;have r:=h.bX;generalize eO:1001=F;have tC:=λ(i m:Int) (aR:0<m) (J:m<=1000000)=>Ub ad yS (i:=i) aR J;have Y:=Tm;apply Cs (I:=λvs t=> ∃be er eZ eg dg ps X,vs=[v,.ptr be 0,.ptr er 0]∧Ei s t be er eZ eg .af .af dg ps [] [] X∧2<=ps.length∧ps.length<=4∧dg.length<=6)
  ·intro aa5;refine cf h λer _ h r=>?_;refine cf h λbe _ h r=>?_;have bC:= @bT;repeat' first
    |refine s9 ?_
    |refine oT h (l:=[_,_,_,_,_,_,_,_]) rfl rfl λYQ _ h r=>?_;have k4:=h.c0 (v:=YQ) (.head _)
    |refine gr h (tC 0 4 aS aS) λa ⟨fC,b1⟩=>?_
    |refine lp h (q2 (p:=a) (q:=2)) λ_ _ _ _ Dw=>?_
    |refine gr h (tC 1 3 aS aS) λb ⟨oK,bb⟩=>?_
    |refine lp h (q2 (p:=b) (q:=2)) λ_ _ _ _ fh=>?_
    |refine oT h (l:=[_,_,_,_,_,_,_,_,_,_,_,_,_,_,_,_,_,_]) rfl rfl λeg _ h r=>?_
    |refine p1 h cj (h.c0 (.head _)) (λ_ h r=>?_)
    |refine gr h (tC 2 3 aS aS) λia ⟨avo,avp⟩=>?_
    |refine za _ aa5 λe6 KW=>?_
   have amj:BN [((-40:Int),(-4:Int)),(60, -4),(60,0),(-40,0)]:=by intro x hx;simp at hx;rcases hx with rfl|rfl|rfl|rfl<;>decide
   have cQ:q5 [.ca YQ 82 2 4 [.int .i64 (-40),.int .i64 (-4),.int .i64 60,.int .i64 (-4),.int .i64 60,.int .i64 0,.int .i64 (-40),.int .i64 0]] ⟨[((-40:Int),(-4:Int)),(60, -4),(60,0),(-40,0)],0,0,[]⟩ _:=⟨_,_,_,_,_,_,_,_,_,_,_,_,_,_,_,_,_,_,rfl,⟨_,OY _,.inr ⟨82,.head _⟩⟩,ns.mono aS aS,ns.mono aS aS,⟨_,.nil,.inl .nil⟩,eC Dw (eC fh rfl),k4,rfl⟩;have h:=((((h.xU 130 17).mr (x:=.ca eg 88 18 _ _) hG).mr (x:=.cM er _ _) hG).mr (x:=.cM be _ _) hG);obtain ⟨Di,h8⟩:∃Di:Int,1+ia=Di:=⟨_,rfl⟩;have bC:=ar @bT @h8;repeat' first
    |refine s9 ?_
    |refine hO (λk vs t=> ∃(i:Nat) (x top:Int) (be er:Nat) (eZ eg:V) (dg:List qo) (ps:List gT) (X:List b2),vs=[.int .i64 top,.int .i64 x,.int .i64 i,.int .i64 Di,v,.ptr be 0,.ptr er 0]∧Ei s t be er eZ eg .af .af dg ps [] [] X∧ps.length=i+1∧dg.length<=3*i∧dg.length<=6∧ -18<=x∧x<= -18+10*i∧0<=top∧top<=10+2*i∧(i:Int)<=Di∧i+k=3) 3
      ⟨0, -18,0,be,er,.af,eg,[],[_],[_],rfl,⟨_,_,h,rfl,.nil,.one cQ,(λP cQ=>by rw[iu.1 cQ];exact ⟨aS,aS,amj,aS,λ_ h=>by cases h⟩),.inl ⟨rfl,rfl⟩,.inl ⟨rfl,rfl⟩⟩,rfl,cg _,aS,D,D,D,D,D,D⟩ D ?_
   clear h r cQ aa5 Dw fh k4;rintro a3 k _ t ⟨i,x,top,be,er,eZ,eg,dg,ps,X,rfl,⟨jk,jb,h,g8,ai,al,cK,E,hk⟩,gF,aui,auk,Hd,fA,avS,avT,tn,na⟩ cR;have r:=h.bX;have fF:=(h.bx (v:=eZ) eB).len;by_cases hi:(i:Int)<Di
   case neg=>
    have bC:=ar @fF @bT;repeat' first
     |refine s9 ?_
     |refine yD ?_
     |exact KW _ _ ⟨be,er,eZ,eg,dg,ps,X,rfl,⟨jk,jb,h,g8,ai,al,cK,E,hk⟩,D,D,D⟩
   by_cases bD:dg.length<5
   case neg=>
    have bC:=ar @fF @bT;repeat' first
     |refine s9 ?_
     |refine yD ?_
     |exact KW _ _ ⟨be,er,eZ,eg,dg,ps,X,rfl,⟨jk,jb,h,g8,ai,al,cK,E,hk⟩,D,D,D⟩
   have bC:=ar @fF @bT;repeat' first
    |refine s9 ?_
   refine yD ?_;have bC:=ar @fF @bT;repeat' first
    |refine s9 ?_
   refine yD ?_;apply Cs (I:=λvs t'=>t'=t∧ ∃(ql:V) (c5:List (Int×Int)) (ob n so y x':Int),vs=[ql,.int .i64 n,.int .i64 so,.int .i64 y,.int .i64 ob,.int .i64 i,.int .i64 x',.int .i64 Di,v,.ptr be 0,.ptr er 0]∧fY 2 l7 c5 ql∧Jm c5∧0<=ob∧ob<=2∧0<=n∧n<432∧ -18<=x'∧x'<= -18+10*(i+1)∧0<=y∧y<=10+2*i)
   ·intro RM;have bC:= @bT;repeat' first
     |refine s9 ?_
     |refine gr h (tC _ 432 aS aS) λn ⟨ia,ed⟩=>?_
     |refine g7 h (Nc (n:=n) (by unfold ez;omega)) (λ_ ⟨c5,ob,ql,e,f1,f2,kH,dj⟩=>?_);subst e
     |refine gr h (tC _ 7 aS aS) λso ⟨jo,fV⟩=>?_;by_cases aO:0<top<;>by_cases hw:so<3<;>by_cases avd:4<so
     |refine za _ RM λj aG=>?_
     |refine yD ?_
     |exact aG _ _ ⟨rfl,ql,c5,ob,n,so,_,_,rfl,f1,f2,kH,dj,ia,ed,D,D,D,D⟩
   ·rintro _ _ ⟨rfl,ql,c5,ob,n,so,y,x',rfl,f1,f2,kH,dj,ia,ed,av0,as3,aeu,gh⟩;have PV:(b2.cM be [eZ,eg,.af,.af] 28:: .cM er [.af,.af,.af,.af] 28::X).all b2.u3=true:=g8;have ar4:en ql=false:=(f1.ls (s:=s)).bad;have h3:x'.natAbs<=100:=D;have v9:y.natAbs<=100:=D;have Aa:dg.length<=8:=D;have CT:ps.length<=8:=D;obtain ⟨c7,dw⟩:∃b,decide ((dg.length:Int)<4)=b:=⟨_,rfl⟩;have P1:dg.length+(bif c7 then 3 else 2)<=6:=by
     cases c7;show dg.length+2<=6;omega;have:=D4 dw;show dg.length+3<=6;omega
    by_cases cF:so=6<;>by_cases au:0<ob<;>cases c7;all_goals
     simp only[cond_true,cond_false]at P1;have bC:=ar @bT (ar @fF @dw);repeat' first
      |refine s9 ?_
      |refine YJ (ae7 _ h hG hG PV rfl rfl ai (al.mono .ME) f1 Aa CT h3 v9 D D) h.loc.eK (apd ar4) (λ_ _ _ ⟨EV,GF,yp,O1,L8,jS,aC,ba,eP,lM,uT⟩ h=>?_);subst aC ba;have r:=h.bX
      |refine c9 h cj (λ_ h r=>?_) (hx:=DD (h.c0 eB) (h.c0 eB) rfl rfl)
      |refine yD ?_
      |exact cR (k - 1) _ _ D ⟨i+1,_,_,be,er,EV,GF,dg++zL _,ps++ [B3 dg.length c5 x' y _],.ca yp 132 13 _ jS::X,rfl,⟨O1,L8,by rw[hZ,hZ];exact (((h.mr (x:=.ca EV 130 17 _ _) hG).mr (x:=.ca GF 88 18 _ _) hG).mr (x:=.cM er _ _) hG).mr (x:=.cM be _ _) hG,g8,eP,uT.mono (kX.cy kX.bU),by rw[hZ];exact ao6 cK (Nat.le_add_right _ _) (ahT f2 _ _ _ _),.inl ⟨rfl,rfl⟩,.inl ⟨rfl,rfl⟩⟩,by simp[gF],by simp[zL];omega,by simp[zL];omega,D,D,D,D,D,D⟩
  ·rintro _ t ⟨be,er,eZ,eg,dg,ps,X,rfl,⟨jk,jb,h,g8,ai,al,cK,E,hk⟩,ei,iB,d6⟩;have PV:(b2.cM be [eZ,eg,.af,.af] 28:: .cM er [.af,.af,.af,.af] 28::X).all b2.u3=true:=g8;have r:=h.bX;have fF:=(h.bx (v:=eZ) eB).len;apply Cs (I:=λvs t=> ∃(more:Int) (be er:Nat) (eZ eg:V) (dg:List qo) (ps:List gT) (X:List b2),vs=[.int .i64 more,.ptr be 0,.ptr er 0]∧Ei s t be er eZ eg .af .af dg ps [] [] X∧2<=ps.length∧ps.length<=6∧dg.length<=7∧0<=more∧more<8)
   ·intro RM;have bC:=ar @fF @bT;repeat' first
     |refine s9 ?_
     |refine gr h (tC 3 8 aS aS) λmore ⟨hQ,dR⟩=>?_;by_cases hm:more % 2=1<;>by_cases auj:dg.length<6
     |refine za _ RM λj aG=>?_
     |refine YJ (ae8 h hG hG PV rfl rfl ai (al.mono .ME) D D hQ D) h.loc.eK (Gt rfl rfl) (λ_ _ _ ⟨EV,GF,cy,cm,O1,L8,aB,aT,aQ,BK,BL,aC,ba,eP,FI,uN,uT,dm,fg⟩ h=>?_);subst aC ba;have r:=h.bX
     |refine c9 h cj (λ_ h r=>?_) (hx:=DD (h.c0 eB) (h.c0 eB) rfl rfl)
     |have AS:=dm;exact aG _ _ ⟨_,be,er,EV,GF,dg++ [aQ],ps++ [BK,BL],.ca cm 132 13 1 aT:: .ca cy 132 13 1 aB::X,rfl,⟨O1,L8,by rw[hZ,hZ];exact (((h.mr (x:=.ca EV 130 17 _ _) hG).mr (x:=.ca GF 88 18 _ _) hG).mr (x:=.cM er _ _) hG).mr (x:=.cM be _ _) hG,g8,eP,uT.mono (kX.cy (kX.cy kX.bU)),by rw[hZ];exact ao7 cK (Nat.le_add_right _ _) dm fg,.inl ⟨rfl,rfl⟩,.inl ⟨rfl,rfl⟩⟩,by simp<;>omega,by simp<;>omega,by simp<;>omega,D,D⟩
     |exact aG _ _ ⟨_,be,er,eZ,eg,dg,ps,X,rfl,⟨jk,jb,h,g8,ai,al,cK,E,hk⟩,D,D,D,D,D⟩
   clear h r g8 ai al cK E hk fF ei iB d6;rintro _ t ⟨more,be,er,eZ,eg,dg,ps,X,rfl,⟨jk,jb,h,g8,ai,al,cK,E,hk⟩,ei,lz,d7,hQ,RT⟩;have h:=h.xU 99 23;have r:=h.bX;obtain ⟨nr,P,jS,aC,ba,cQ,cd⟩:=h.aqq (v:=eg) (e:=88) eB rfl al (i:=1) D;have aC:dW 18 eg (.int .i64 1)=some (.ptr nr 18):=aC .i64;have cd:bf 18 t (.ptr nr 18)=some (.agg jS):=cd;have y0:=cQ.c0.1;obtain ⟨iO,fA,gC,gx,g4,gh,gQ,cD,jD,kq,fQ,bM,jB,hL,bb,bU,cP,c7,rfl,cL,cS,ds,gw,qK,GI,acH⟩:=cQ;apply Cs (I:=λvs t=> ∃(more:Int) (be er:Nat) (eZ eg gM:V) (dg:List qo) (ps:List gT) (rs:List qt) (X:List b2),vs=[.int .i64 more,.ptr be 0,.ptr er 0]∧Ei s t be er eZ eg gM .af dg ps rs [] X∧2<=ps.length∧ps.length<=6∧dg.length<=7∧rs.length<=1∧ ∀R,R∈rs->R.ok ps.length)
   ·intro aoF;have bC:=ar @bT (ar @aC @cd);repeat' first
     |refine s9 ?_
     |refine cf h λ_ _ h r=>?_
     |refine za _ aoF λj aG=>?_;by_cases hm:more / 2 % 2=1
     |refine c9 h cj (λ_ h r=>?_) (hx:=y0)
     |refine xi h (l:=[_,_,_,_,_,_,_,_,_]) rfl rfl λXY _ _ h r=>?_;have ane:=h.c0 (v:=XY) (.head _)
     |refine eN h (ua (p:=more / 4)) λ_ _ _ _ asP=>?_;have ano:=tZ ds.hE asP
     |refine eN h ano λ_ _ _ _ jP=>?_
     |refine xi h (l:=[_,_,_,_,_,_,_,_,_,_,_,_,_,_,_,_,_,_,_,_,_,_,_]) rfl rfl λ_ _ _ h r=>?_
     |refine yy h (by repeat first|exact .here _ _|assumption|apply ji.there) (h.bx (.head _)) (aqV cS ane jP) rfl aS aS λada _ _ _ _ h r=>?_
     |refine Fi h cj (h.c0 (.head _)) (λ_ _ h r=>?_)
     |refine Cy rfl (by repeat first|exact trivial|apply kC.eY|refine kC.oO (.inr ⟨_,rfl,λ_ _ h=>(by cases h)⟩) (by decide+kernel) ?_) ?_
     |have avY:=jP;exact aG _ _ ⟨_,be,er,eZ,eg,ada,dg,ps,[SK _ _],.ca ada 99 23 1 _:: .ca XY 94 3 3 JW::X,rfl,⟨jk,jb,((((h.mr (x:=.ca eZ 130 17 _ _) hG).mr (x:=.ca eg 88 18 _ _) hG).mr (x:=.cM er _ _) hG).mr (x:=.cM be _ _) hG).sub jq,g8,ai,al.mono .ME,cK,.inr ⟨_,_,_,_,_,_,_,_,_,_,_,rfl,.head _,.tail _ (.head _),cS.mono aS aS,jP.1,(fh.add (A:=100) (B:=1) (fi:=10) (B':=1) ds.2 (fh.int D)).mono aS aS⟩,.inl ⟨rfl,rfl⟩⟩,ei,lz,d7,cg _,λR pn=>by rw[iu.1 pn];exact aqU _ _ ei⟩
     |exact aG _ _ ⟨_,be,er,eZ,eg,.af,dg,ps,[],X,rfl,⟨jk,jb,h.sub (M7 ..),g8,ai,al,cK,.inl ⟨rfl,rfl⟩,.inl ⟨rfl,rfl⟩⟩,ei,lz,d7,qX _,λ_ h=>by cases h⟩
   clear h r g8 ai al cK E hk ei lz d7 hQ RT aC ba cd y0 cL cS ds gw qK GI acH;rintro _ t ⟨more,be,er,eZ,eg,gM,dg,ps,rs,X,rfl,⟨jk,jb,h,g8,ai,al,cK,E,hk⟩,ei,lz,d7,jM,gX⟩;have r:=h.bX;have gF:=(h.bx (v:=eg) eB).len;apply Cs (I:=λvs t=> ∃(be er:Nat) (eZ eg gM j2:V) (dg:List qo) (ps:List gT) (rs:List qt) (ni:List (Int×Int)) (X:List b2),vs=[.ptr be 0,.ptr er 0]∧Ei s t be er eZ eg gM j2 dg ps rs ni X∧2<=ps.length∧ps.length<=6∧dg.length<=7∧rs.length<=1∧(∀R,R∈rs->R.ok ps.length)∧ni.length<=1∧BN ni)
   ·intro aoG;by_cases hm:more=7<;>by_cases Ap:2<ps.length;all_goals
     have bC:=ar @gF @bT;repeat' first
      |refine s9 ?_
      |refine za _ aoG λj aG=>?_
      |refine oT h (l:=[.int .i64 1,.int .i64 2]) rfl rfl λabk _ h r=>?_
      |refine p1 h cj (h.c0 (.head _)) (λ_ h r=>?_)
      |have fS:=Ap;have kI:more=7:=hm;have fS:2<ps.length:=Ap;exact aG _ _ ⟨be,er,eZ,eg,gM,abk,dg,ps,rs,[(1,2)],.ca abk 100 2 1 _::X,rfl,⟨jk,jb,(((h.mr (x:=.ca eZ 130 17 _ _) hG).mr (x:=.ca eg 88 18 _ _) hG).mr (x:=.cM er _ _) hG).mr (x:=.cM be _ _) hG,g8,ai,al.mono .t,cK,E.mono .t,.inr ⟨rfl,.head _⟩⟩,ei,lz,d7,jM,gX,cg _,by intro x hx;rw[iu.1 hx];decide⟩
      |exact aG _ _ ⟨be,er,eZ,eg,gM,.af,dg,ps,rs,[],X,rfl,⟨jk,jb,h,g8,ai,al,cK,E,.inl ⟨rfl,rfl⟩⟩,ei,lz,d7,jM,gX,qX _,λ_ h=>by cases h⟩
   clear h r g8 ai al cK E hk ei lz d7 jM gX gF;rintro _ t ⟨be,er,eZ,eg,gM,j2,dg,ps,rs,ni,X,rfl,⟨jk,jb,h,g8,ai,al,cK,E,hk⟩,ei,lz,d7,jM,gX,uO,KX⟩;have r:=h.bX;have fA:=E.c0 h (λ_ _ _ _ _ h=>.tail _ (.tail _ (.tail _ (.tail _ h))));have gC:=hk.c0 h (λ_ _ _ _ _ h=>.tail _ (.tail _ (.tail _ (.tail _ h))));repeat' first
    |refine iG ?_
    |refine c9 h cj (λ_ h r=>?_) (hx:=DD (h.c0 eB) (h.c0 eB) fA gC)
    |exact akO h ae eB eB (λ_ _ _ _ _ h=>.tail _ (.tail _ (.tail _ (.tail _ h)))) ai al E hk λw hw=>⟨_,hw,⟨by show dg.length<=8;omega,by show 1<=ps.length;omega,by show ps.length<=8;omega,cK,by show rs.length<=2;omega,gX,by show ni.length<=2;omega,KX⟩⟩) D,by simp[ad.a2]⟩
end
end Go.ah.X
