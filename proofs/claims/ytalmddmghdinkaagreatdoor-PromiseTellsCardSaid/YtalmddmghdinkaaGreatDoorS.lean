/-
  A part: lemmas; conditions: those that each names.
-/
import Derived.Test.YtalmddmghdinkaaGreatDoorR
set_option linter.all false
set_option linter.deprecated false
noncomputable section
namespace Go.ah.X
open Go Go.ah Go.Proofs.dI
theorem oi{m n:Nat}(h:m<=n):(aL m).length<=(aL n).length:=by
 rcases (show (aL m).length<=(aL n).length∨(aL n).length<(aL m).length by omega) with J|J
 exact J;have:=Gu J;omega
theorem B4(n:Nat):ck n=((1000000000 ^ n:Nat):Int):=by unfold ck;simp
theorem aph{l:List Int}(h:ea l):(aL (a0 l).toNat).length<=l.length:=by
 refine nm ?_;have J:=ou h;have U:=nw h;rw[B4]at J;omega
theorem bN.wo{v:V}{X:Nat}(h:bV .i64 v (aL X)):bN X (.agg [.bool false,v]):=⟨v,by rw[show decide ((X:Int)<0)=false from e3 D],by rw[fb];exact h⟩
theorem df{a b:V}(av:a2 a=true)(Y:a2 b=true): [a,b].all a2=true:=by simp[av,Y]
theorem fJ{a:V}(av:a2 a=true): [a].all a2=true:=by simp[av]
theorem abM(X:Nat){k:Int}(aR:0<=k)(hk:k<1000000000):(aL (X*k.toNat)).length<=(aL X).length+1:=by
 refine nm ?_;have J:=ou (gK X);rw[gq,B4]at J;have U:X<1000000000 ^ (aL X).length:=D;rw[Nat.pow_succ]
 calc X*k.toNat<=X*1000000000:=Nat.mul_le_mul_left _ D
  _<_:=Nat.mul_lt_mul_of_pos_right U D
theorem Xm{v:V}{X:Nat}{k:Int}(ad:bV .i64 v (aL X))(Z:(aL X).length<=10000000)(aR:0<=k)(hk:k<1000000000):h6 a9 196 [v,.int .i64 k] (λr=>bV .i64 r (aL (X*k.toNat))):=λs ae=>
 (Vp (cv aS)).kQ 0 (by
  show eE s _ (Iw a9 0 v (.int .i64 k) s);unfold Iw;simp only[cw];obtain ⟨a,av,aC⟩:=hI (aP:=false) (st:=true) (rb false ad (gK _) D) (df rfl ad.a2) (s:=s) D;rw[gq]at av;have jZ:bN (X:Int) a:=av;obtain ⟨b,Y,ba⟩:=hI (aP:=false) (st:=true) (yn k (by unfold ez;omega)) (fJ rfl) (s:=s) D;have aj:=nm (x:=k.natAbs) (n:=1) D;obtain ⟨c,aa,cd⟩:=hI (aP:=false) (st:=true) (w9 jZ Y (by rw[fb];omega) D) (df jZ.a2 Y.a2) (s:=s) D;obtain ⟨d,rfl,ai⟩:=aa;have g8:((X:Int)*k).natAbs=X*k.toNat:=by rw[mC,fb];congr 1;omega
  obtain ⟨s2,ff,c7,eU,eh,o0⟩:=qx (cs:=[.bool false,.af]) (l:=[.bool (decide ((X:Int)*k<0)),d]) (t:=43) (z:=2) (Loc.refl ae) rfl rfl (j9 ai).2;simp (disch:=omega) only[cW,st,aC,ba,cd];rw[ff];simp (disch:=omega) only[cW,st,du,c7.bM];rw[g8]at ai;exact ⟨_,ai,e7 ai.a2 D eU.eK⟩) D
def ag3(X bJ:Nat)(n:Nat)(r:V):Prop:= ∃q w l,r=.da [q,w]∧bV .i64 q l∧ea l∧a0 l=((X / bJ:Nat):Int)∧l.length<=n∧bV .i64 w (aL (X % bJ))
theorem wG{X:Nat}(h:(aL X).length<=2):X<1000000000000000000:=by
 have J:=ou (gK X);rw[gq,B4]at J;have:1000000000 ^ (aL X).length<=1000000000 ^ 2:=Hp D h;omega
theorem aiY(p:Prop)[Decidable p](j:List V->S->ax)(k:IntKind)(a b:Int)(l:List V)(s:S):aW (.bool (decide p)) (j (.int k a::l) s) (j (.int k b::l) s)=j (.int k (if p then a else b)::l) s:=by
 by_cases h:p;rw[Cc _ _ h,if_pos h];rw[EJ _ _ h,if_neg h]
theorem aih{v w:V}{X bJ:Nat}(ad:bV .i64 v (aL X))(hw:bV .i64 w (aL bJ))(n4:0<bJ)(Z:(aL X).length<=1000000)(dK:(aL bJ).length<=1000000):h6 a9 162 [v,w] (ag3 X bJ ((aL X).length+3)):=λs ae=>
 (U5 (cv aS)).kQ (1000000000+2) (by
  show eE s _ (H9 a9 _ v w s);unfold H9;simp only[cw];generalize eO:1000000000+2=F;have F4:=gq X;have CY:=gq bJ;have Fw:=gK X;by_cases U:(aL X).length<=2∧(aL bJ).length<=2
  ·have g8:=wG U.1;have aly:=wG U.2;have aC:∀t:S,t.ag<=t.n->cJ a9 false true (.fn 161 [] []) [v] t=some (.int .i64 (X:Int),t):=λt aO=>by
    have:=hh (aP:=false) (st:=true) (JD ad Fw U.1) (fJ ad.a2) aO
    rwa [F4]at this
   have ba:∀t:S,t.ag<=t.n->cJ a9 false true (.fn 161 [] []) [w] t=some (.int .i64 (bJ:Int),t):=λt aO=>by
    have:=hh (aP:=false) (st:=true) (JD hw (gK bJ) U.2) (fJ hw.a2) aO
    rwa [CY]at this
   have a7:(X:Int) / bJ<=X:=Int.ediv_le_self _ D;have xz:0<=(X:Int) / bJ:=Int.ediv_nonneg D D;have nO:=zv (X:Int) (show 0<(bJ:Int) by omega);have tt:=zw (X:Int) (show (bJ:Int)≠0 by omega);obtain ⟨a,av,cd⟩:=hI (aP:=false) (st:=true) (yn ((X:Int) / bJ) (by unfold ez;omega)) (fJ rfl) (s:=s) D;obtain ⟨d,rfl,ai⟩:=av;obtain ⟨s2,ff,c7,eU,eh,o0⟩:=qx (cs:=[.bool false,.af]) (l:=[.bool (decide ((X:Int) / bJ<0)),d]) (t:=43) (z:=2) (Loc.refl ae) rfl rfl (j9 ai).2;obtain ⟨a8,jZ,h0⟩:=hI (aP:=false) (st:=true) (yn ((X:Int) % bJ) (by unfold ez;omega)) (fJ rfl) eU.ag;obtain ⟨bK,rfl,eP⟩:=jZ;obtain ⟨fB,jT,oM,nj,g2,wj⟩:=qx (cs:=[.bool false,.af]) (l:=[.bool (decide ((X:Int) % bJ<0)),bK]) (t:=43) (z:=2) eU rfl rfl (j9 eP).2;have zK:=c7.a1 g2 (by simp);simp (disch:=omega) only[cW,st,bg,ad.len,hw.len,aC,ba,bT,cd];rw[ff];have gY:=eU.ag;simp (disch:=omega) only[cW,st,bg,aC,ba,h0];rw[jT];simp (disch:=omega) only[cW,st,bg,du,zK.bM,oM.bM];have kK:((X:Int) / bJ).natAbs=X / bJ:=by rw[<-Int.natCast_ediv,fb]
   have oX:((X:Int) % bJ).natAbs=X % bJ:=by rw[<-zy,fb]
   rw[kK]at ai;rw[oX]at eP;have aj:=oi (sR X bJ);exact ⟨_,⟨d,bK,_,rfl,ai,gK _,gq _,D,eP⟩,xh (by show (ep d && (ep bK && true))=true;rw[dz.ep ai,dz.ep eP];rfl) D nj.eK⟩
  ·have qC:∀K:V->ax,(aF (bH .leq cD (.int .i64 ((aL X).length:Int)) (.int .i64 2)) λv2=>aF (ic v2 true (some w)) λhz=>aF (ic v2 true (fP hz)) λv4=>aF (ic v2 true (bH .leq cD v4 (.int .i64 2))) λkT=>aF (di v2 kT (.bool false)) K)=K (.bool false):=λK=>by
    by_cases aj:(aL X).length<=2;simp (disch:=omega) only[st,bg,hw.len];rw[e3 D];simp (disch:=omega) only[st,bg,hw.len]
   rw[ad.len,w8,qC];obtain ⟨out,hF,ff,gH,eU,eh,vB⟩:=Gp (T:=types) (t:=22) (ti:=zl) (te:=g3) (x:=.int .i64 0) (n:=((aL X).length:Int)) (Loc.refl ae) rfl rfl rfl rfl rfl D (by rw[show g3.bytes=8 from rfl];omega) D;rw[dZ,<-BE]at gH;simp (disch:=omega) only[cW,st,bg,ad.len,ff,bT];have auO:(aL X).length<=(aL X).length+3:=D;generalize gW:aL X=A at*;refine jO (eE s _) (λj vs t=> ∃(o:List Int) (gM:V) (R:Nat),vs=[.int .i64 ((j:Int) - 1),v,w,out,gM]∧Loc s t∧cl s t 3 1 out A.length (fp o)∧bV .i64 gM (aL R)∧R<bJ∧ea o∧o.length=A.length∧a0 (A.drop j)=a0 (o.drop j)*bJ+R∧j<=A.length) ?_ _ A.length _ _
    ⟨List.replicate A.length 0,.af,0,rfl,eU,gH,by rw[jm];exact bV.nil _,n4,EP _,vo,by rw[pb (cg _),pb (by simp)];simp[a0],cg _⟩ D
   rintro a3 j _ t ⟨o,gM,R,rfl,b6,aE,tv,pn,n8,kJ,su,po⟩ cR;by_cases aG:j=0
   ·subst aG;simp (disch:=omega) only[cW,st,bg];rw[h5,h5,F4]at su;obtain ⟨bD,cF⟩:=Md (x:=(X:Int)) (b:=(bJ:Int)) (q:=a0 o) D D (by rw[vp];omega);have jL:cl s t 3 1 out o.length (fp o):=by rw[kJ];exact aE
    obtain ⟨q,bs,dV,fL,rfl⟩:=jL.gl (lR _ _);refine ⟨_,⟨q,gM,o,rfl,fL,n8,?_,D,?_⟩,?_⟩;rw[<-bD];simp;have:X % bJ=R:=by
     have jH:((X % bJ:Nat):Int)=(R:Int):=by rw[zy,cF];omega
     omega
    rw[this];exact tv;exact E6 (l:=[out,gM]) (l':=[q,gM]) (bs:=b4 out++([]++ [])) (.cons _ _ _ _ _ _ (.one _ _ _ dV) (.cons _ _ _ _ _ _ (.one _ _ _ (.at _ tv.atom)) .nil)) (by simp) ae b6 (λb Y=>by simp only[hd]at Y;exact (aE.lo Y).1)
   ·have nL:=jt Fw (j - 1);have vW:((j:Int) - 1).toNat=j - 1:=D;obtain ⟨gh,t1,h0,ho,hy,eo,iw⟩:=uq (e:=3) (z:=1) (len:=1) b6 (J5 (z:=.int .i64 0) (d:=.int .i64 (A.getD (j - 1) 0)) rfl) rfl;have atV:=oi (nY pn);obtain ⟨gQ,t2,jT,AT,nj,g2,oM⟩:=Ju (te:=g3) hy ho tv (Lv _ _) rfl aS (by rw[show g3.bytes=8 from rfl];omega);have abY:cl s t2 3 1 gQ (A.getD (j - 1) 0::aL R).length (fp (A.getD (j - 1) 0::aL R)):=by
     rw[qW,DY];exact AT
    have Zy:ea (A.getD (j - 1) 0::aL R):=O3 nL (gK R);obtain ⟨x',lZ,fO,h3⟩:=vM [.bool false] [] abY (lR _ _) rfl rfl;obtain ⟨cy,hB,t3,me,tE,jy,abH,_⟩:=Ca (aP:=false) (st:=true) nj fO (λb Y=>(abY.lo Y).1) (λ_ h=>by cases h) (rb false h3 Zy (by rw[qW];omega));simp only[sQ,hp]at me;have Zd:=aph Zy;obtain ⟨mH,at1⟩:∃n:Nat,(n:Int)=A.getD (j - 1) 0+1000000000*R:=⟨(A.getD (j - 1) 0+1000000000*R).toNat,D⟩;have aav:a0 (A.getD (j - 1) 0::aL R)=mH:=by simp only[a0,gq];omega
    rw[aav,dZ]at Zd;rw[aav]at hB;obtain ⟨d1,rfl,vR⟩:=hB;rw[show eA false (mH:Int)=mH from rfl,fb]at vR;rw[show eA false (mH:Int)=mH from rfl]at me;obtain ⟨t4,ys,W8,il,oY,R4⟩:=qx (cs:=[.bool false,.af]) (l:=[.bool (decide ((mH:Int)<0)),d1]) (t:=43) (z:=2) tE rfl rfl (by show (true && (bL d1 && true))=true;rw[dz.bL vR];rfl);rw[qW]at Zd;have EX:=hh (aP:=false) (st:=false) (EE vR hw D) (df (bV.a2 vR) (bV.a2 hw)) il.ag;simp (disch:=omega) only[cW,st,bg,ad.c1,hb,vW,h0,jT,me];rw[ys];simp (disch:=omega) only[cW,st,bg,du,W8.bM,EX,aiY];have amI:cl s t1 3 1 out A.length (fp o):=aE.a1 eo (λ_ _=>by simp);have Z0:∀b,b∈b4 out->b<t.n:=λb Y=>(aE.lo Y).2;have QQ:cl s t2 3 1 out A.length (fp o):=amI.a1 g2 (λb Y h=>by have:=iw b h;have:=Z0 b Y;omega);have amK:cl s t3 3 1 out A.length (fp o):=QQ.a1 jy (λb Y h=>by
     have jH:=Z0 b Y;have tf:=eo.1;rcases oM b h with Kv|Kv
     have:=iw b Kv;omega;omega)
    have K7:cl s t4 3 1 out A.length (fp o):=amK.a1 oY (λ_ _=>by simp);have KB:(mH:Int)<1000000000*bJ:=D;have v3:∀a b:Int,(e8 a b<0↔a<b)∧(e8 a b<=0↔a<=b):=λa b=>by unfold e8;(repeat' split)<;>constructor<;>constructor<;>omega
    refine jO (eE s _) (λm vs u=> ∃lo hi:Int,vs=[.int .i64 hi,d1,.int .i64 lo,.int .i64 ((j:Int) - 1),v,w,out]∧t4=u∧0<=lo∧lo+m=hi∧hi<=999999999∧lo*bJ<=mH∧(mH:Int)<(hi+1)*bJ) ?_ _ (if e8 (mH:Int) (bJ:Int)<0 then 0 else 999999999) _ _
     ⟨0,if e8 (mH:Int) (bJ:Int)<0 then 0 else 999999999,rfl,rfl,vn _,by split<;>simp,by split<;>omega,D,by
      split;rename_i h;have:=(v3 _ _).1.1 h;omega;exact KB⟩ (by split<;>omega)
    rintro xE m _ _ ⟨lo,hi,rfl,rfl,auK,QE,jw,ZZ,ZN⟩ lO;by_cases KY:lo<hi;have Am:lo<(lo+hi+1) / 2∧(lo+hi+1) / 2<=hi:=D;generalize CR:(lo+hi+1) / 2=mid at Am;obtain ⟨T,cA,Pc⟩:=hI (aP:=false) (st:=false) (Xm hw D (k:=mid) D D) (df (bV.a2 hw) rfl) il.ag;have alo:=abM bJ (k:=mid) D D;have X0:=hh (aP:=false) (st:=false) (EE cA vR D) (df (bV.a2 cA) (bV.a2 vR)) il.ag;have KC:((bJ*mid.toNat:Nat):Int)=mid*bJ:=by
     rw[wO,Bp D,oA]
    rw[KC]at X0;simp (disch:=omega) only[cW,st,bg,bT,CR,Pc,X0];by_cases aa:mid*bJ<=(mH:Int);have lM:=(v3 (mid*bJ) mH).2.2 aa;simp (disch:=omega) only[cW,st];exact lO (hi - mid).toNat _ _ D ⟨mid,hi,rfl,rfl,D,D,jw,aa,ZN⟩;have lM: ¬e8 (mid*bJ) mH<=0:=λh=>aa ((v3 (mid*bJ) mH).2.1 h);simp (disch:=omega) only[cW,st,bg,bT];exact lO (mid - 1 - lo).toNat _ _ D ⟨lo,mid - 1,rfl,rfl,D,D,D,ZZ,by rw[show mid - 1+1=mid by omega];omega⟩;have ih:hi=lo:=D;subst ih;clear lO;obtain ⟨T,cA,Pc⟩:=hI (aP:=false) (st:=true) (Xm hw D (k:=hi) D D) (df (bV.a2 hw) rfl) il.ag;have alo:=abM bJ (k:=hi) D D;have KC:((bJ*hi.toNat:Nat):Int)=hi*bJ:=by
     rw[wO,Bp D,oA]
    obtain ⟨sx,⟨e1,ei,fG⟩,as7,t9,ajw,abW,aoR,C8,ahp⟩:=XA (aP:=false) (st:=true) il (by simp[dz.ep vR,dz.ep cA]) (ON vR cA (gK _) (gK _) D D (by rw[gq,gq,KC];exact ZZ));rw[gq,gq,KC]at ei;obtain ⟨aen,ar6,Qm,Ro⟩:=vM [.bool false] [] abW (lR _ _) rfl rfl;obtain ⟨cm,j0,t10,Pd,aoS,LB,avr,_⟩:=Ca (aP:=false) (st:=true) aoR Qm (λb Y=>(abW.lo Y).1) (λ_ h=>by cases h) (rb false Ro e1 D);simp only[sQ,hp]at Pd;obtain ⟨uf,PQ⟩:∃n:Nat,(n:Int)=(mH:Int) - hi*bJ:=⟨((mH:Int) - hi*bJ).toNat,D⟩;rw[ei,<-PQ]at j0;obtain ⟨d2,rfl,z9⟩:=j0;rw[show eA false (uf:Int)=uf from rfl,fb]at z9;rw[show eA false (uf:Int)=uf from rfl]at Pd;obtain ⟨t11,ajx,ahq,aoT,aox,avs⟩:=qx (cs:=[.bool false,.af]) (l:=[.bool (decide ((uf:Int)<0)),d2]) (t:=43) (z:=2) aoS rfl rfl (by show (true && (bL d2 && true))=true;rw[dz.bL z9];rfl);have amL:cl s t9 3 1 out A.length (fp o):=K7.a1 C8 (λ_ _=>by simp);have amB:∀b,b∈b4 out->b<t4.n:=λb Y=>(K7.lo Y).2;have aae:cl s t10 3 1 out A.length (fp o):=amL.a1 LB (λb Y h=>by have:=ahp b h;have:=amB b Y;omega);have amJ:cl s t11 3 1 out A.length (fp o):=aae.a1 aox (λ_ _=>by simp);obtain ⟨p,t12,ajy,ajz,abX,aoU,aoy⟩:=amJ.put aoT .i64 (i:=(j:Int) - 1) D D (x:=.int .i64 hi) rfl;rw[vW,<-q4]at abX;have ahr:=ahq.a1 aoy (λh=>by have:=(aae.lo h).2;omega);simp (disch:=omega) only[cW,st,bg,Pc,ajw,Pd];rw[ajx];simp (disch:=omega) only[cW,st,bg,ajy,ajz,du,ahr.bM,bT];refine cR (j - 1) _ _ D ⟨o.set (j - 1) hi,d2,uf,by rw[show ((j - 1:Nat):Int) - 1=(j:Int) - 1 - 1 by omega],aoU,abX,z9,?_,xd n8 _ D,by simpa using kJ,?_,D⟩;rw[vp]at ZN;omega;have Fl:=mU A (i:=j - 1) D;have CB:=mU (o.set (j - 1) hi) (i:=j - 1) (by simp;omega);rw[show j - 1+1=j by omega]at Fl CB;have Kw:(o.set (j - 1) hi).getD (j - 1) 0=hi:=by simp[ir,Bo,show j - 1<o.length by omega]
    have PJ:(o.set (j - 1) hi).drop j=o.drop j:=Bv D;rw[Fl,CB,Kw,PJ,su,vp,wR];omega) D
theorem Xc{ao s:S}{z len e:Nat}{ps:List (Nat×Nat×V)}{c l:List V}{r:Reach}(Z:Loc ao s)(aM:bW c ps=some (.agg l))(aa:l.length=len*z):
  ∃v' s' hi,e9 r (some []) s (fl z len e c ps (aN s))=some (v',s',eM r s.n hi [])∧cl ao s' e z v' len l∧Loc ao s'∧fX s s' []∧(∀b,b∈b4 v'->s.n<=b):=by
 obtain ⟨v',s',aC,dm,bk,aB,bb⟩:=uq (e:=e) Z aM aa;unfold fl at aC ⊢;rw[aM]at aC ⊢;simp only[c6,cU,c4]at aC;obtain ⟨rfl,rfl⟩:=aC;refine ⟨_,_,s.n+1,?_,dm,bk,aB,bb⟩;unfold e9 eM;simp only[];congr 4;split<;>rfl
theorem Ch{bb bU c d bk cn dM eU:Nat}(h:c≠bU):fe [0,0,1,7] [eM (some [bb]) bk bk [],eM (some [bU]) cn cn [],⟨⟨some [c],some [c],dM,dM⟩,[]⟩,⟨⟨some [d],some [d],eU,eU⟩,[]⟩]=true:=by
 have J:∀n:Nat,(Nat.ble n c && Nat.blt c n)=false:=λn=>by
  cases U:Nat.blt c n with
  |false=>simp
  |true=>
   rw[gy]at U;have:Nat.ble n c=false:=by
    cases aj:Nat.ble n c with
    |false=>rfl
    |true=>rw[eu]at aj;omega
   rw[this];rfl
 have f1:fixed [0,0,1,7] 2 0=true∧fixed [0,0,1,7] 2 2=true∧fixed [0,0,1,7] 2 3=true∧fixed [0,0,1,7] 3 0=true∧fixed [0,0,1,7] 3 1=true∧fixed [0,0,1,7] 3 2=true∧fixed [0,0,1,7] 3 3=true:=aS;obtain ⟨f20,f22,f23,f30,f31,f32,f33⟩:=f1;have kb:(⟨some [c],some [c],dM,dM⟩:fM).lK (eM (some [bU]) cn cn []).f=false:=by
  simp only[fM.lK,eM,Reach.meets,D0,List.any_nil,J];simp[h]
 unfold fe;rw[dU];constructor;simp only[List.zipIdx,gS,pM,eM,f20,f22,f23,f30,f31,f32,f33,Bm,wP,Bool.true_and,gD];have:=kb;simp only[eM]at this;simp only[this,lg,Bool.true_or];simp[zr,eM,Reach.meets]
theorem ajC{x y q r:Int}(h:x=q*y+r)(aR:0<=r)(J:r<y.natAbs):x / y=q∧x % y=r:=by
 rcases (show 0<y∨y<0 by omega) with aI|aI
 obtain ⟨U,aj⟩:=Md (x:=x) (b:=y) (q:=q) aI D (by rw[vp];omega);exact ⟨U,D⟩;have a7:(-q)*(-y)=q*y:=Int.neg_mul_neg q y;obtain ⟨U,aj⟩:=Md (x:=x) (b:= -y) (q:= -q) D D (by rw[vp];omega);rw[Int.ediv_neg]at U;rw[Int.emod_neg]at aj;exact ⟨D,D⟩
theorem aji{x y:Int}(aI:y≠0):
  (¬(x<0∧0<x.natAbs % y.natAbs)->eA (decide (decide (x<0)≠decide (y<0))) ((x.natAbs / y.natAbs:Nat):Int)=x / y∧((x.natAbs % y.natAbs:Nat):Int)=x % y)∧
  (x<0∧0<x.natAbs % y.natAbs->eA (decide (decide (x<0)≠decide (y<0))) ((x.natAbs / y.natAbs:Nat):Int)+eA (decide (decide (x<0)≠decide (y<0))) 1=x / y∧(y.natAbs:Int) - ((x.natAbs % y.natAbs:Nat):Int)=x % y):=by
 have ru:=Nat.div_add_mod x.natAbs y.natAbs;have b6:=x5 x.natAbs (show y.natAbs>0 by omega);generalize x.natAbs / y.natAbs=q at*;generalize x.natAbs % y.natAbs=r at*;have Qc:(y.natAbs:Int)*q+r=x.natAbs:=by exact_mod_cast ru
 have aa:(y.natAbs:Int)*q=q*y.natAbs:=oA _ _;have key:∀(Q R:Int),x=Q*y+R->0<=R->R<y.natAbs->Q=x / y∧R=x % y:=λQ R h aR J=>by
  have:=ajC h aR J;exact ⟨this.1.symm,this.2.symm⟩
 constructor;intro h;by_cases hx:x<0;have E:r=0:=D;subst E;refine key _ _ ?_ D D;unfold eA;by_cases v9:y<0;simp only[hx,v9,decide_true,ne_eq,not_true,decide_false,vj, ↓reduceIte];have gE:(y.natAbs:Int)*q= -((q:Int)*y):=by rw[show (y.natAbs:Int)= -y by omega,zx,oA]
 omega;simp only[hx,v9,decide_true,decide_false,ne_eq,Bool.true_eq_false,not_false_iff, ↓reduceIte];rw[show (y.natAbs:Int)=y by omega]at aa Qc;rw[zx];omega;refine key _ _ ?_ D D;unfold eA;by_cases v9:y<0;simp only[hx,v9,decide_true,decide_false,ne_eq,vj,not_false_iff, ↓reduceIte];have gE:(y.natAbs:Int)*q= -((q:Int)*y):=by rw[show (y.natAbs:Int)= -y by omega,zx,oA]
 rw[zx];omega;simp only[hx,v9,decide_false,ne_eq,not_true,vj, ↓reduceIte];rw[show (y.natAbs:Int)=y by omega]at aa Qc;omega;rintro ⟨hx,E⟩;refine key _ _ ?_ D D;unfold eA;by_cases v9:y<0;simp only[hx,v9,decide_true,ne_eq,not_true,decide_false,vj, ↓reduceIte];have gE:(y.natAbs:Int)*q= -((q:Int)*y):=by rw[show (y.natAbs:Int)= -y by omega,zx,oA]
 rw[vp];omega;simp only[hx,v9,decide_true,decide_false,ne_eq,Bool.true_eq_false,not_false_iff, ↓reduceIte];rw[show (y.natAbs:Int)=y by omega]at aa Qc;rw[vp,zx];omega
theorem OC{l m:List V}(h:l.all atom=true)(h':m.all atom=true):a2 (.da [.agg l,.agg m])=true:=by
 show (l.all atom && (m.all atom && true))=true;rw[h,h'];rfl
def Uq(x y:Int)(r:V):Prop:= ∃u w,r=.da [u,w]∧bN x u∧bN y w
theorem JC{x y:Int}{a b:V}(av:bN x a)(Y:bN y b)(aI:y≠0)(Z:(aL x.natAbs).length<=1000000)(dK:(aL y.natAbs).length<=1000000):h6 a9 113 [a,b] (Uq (x / y) (x % y)):=λs ae=>
 (Ux (cv aS)).kQ 0 (by
  obtain ⟨d,rfl,ai⟩:=av;obtain ⟨e,rfl,he⟩:=Y;show eE s _ (HB a9 0 (.agg [.bool (decide (x<0)),d]) (.agg [.bool (decide (y<0)),e]) s);unfold HB;simp only[cw];obtain ⟨s1,aC,bb,bk,aB,ed⟩:=eL [.bool (decide (x<0)),d] 43 (Loc.refl ae);obtain ⟨s2,ba,bU,cn,aT,gu⟩:=eL [.bool (decide (y<0)),e] 43 bk;obtain ⟨fB,cd,cP,dM,bp,k7⟩:=eL [.bool false,.af] 43 cn;obtain ⟨hF,ff,c7,eU,eh,o0⟩:=eL [.bool false,.af] 43 dM;have fk:=((bb.a1 aT (by simp)).a1 bp (by simp)).a1 eh (by simp);have iv:=(bU.a1 bp (by simp)).a1 eh (by simp);have w7:=cP.a1 eh (by simp);have at4:(aL y.natAbs).length≠0:=λh=>by
   have:=xN (vq.1 h);omega
  have yK:=aji (x:=x) aI;obtain ⟨qr,⟨q,w,l,rfl,a7,Aq,aal,Ar,hw⟩,h0⟩:=hI (aP:=false) (st:=false) (aih ai he D Z dK) (df (bV.a2 ai) (bV.a2 he)) eU.ag;obtain ⟨u,hu,jT⟩:=hI (aP:=false) (st:=true) (rb (decide (decide (x<0)≠decide (y<0))) a7 Aq D) (df rfl a7.a2) eU.ag;rw[aal]at hu;obtain ⟨vI,rfl,vS⟩:=hu;obtain ⟨rT,me,iw,hy,eo,tI⟩:=qx (cs:=[.bool false,.af]) (l:=[.bool (decide (eA (decide (decide (x<0)≠decide (y<0))) ((x.natAbs / y.natAbs:Nat):Int)<0)),vI]) (t:=43) (z:=2) eU rfl rfl (j9 vS).2;have KB:x.natAbs % y.natAbs<y.natAbs:=x5 _ D;have Q2:=oi (nY KB);obtain ⟨sG,tt,ys⟩:=hI (aP:=false) (st:=true) (rb false hw (gK _) D) (df rfl hw.a2) hy.ag;rw[gq]at tt;obtain ⟨ES,rfl,xu⟩:=tt;rw[show eA false ((x.natAbs % y.natAbs:Nat):Int)=((x.natAbs % y.natAbs:Nat):Int) from rfl]at xu ys;obtain ⟨GP,EX,oM,nj,g2,wj⟩:=qx (cs:=[.bool false,.af]) (l:=[.bool (decide (((x.natAbs % y.natAbs:Nat):Int)<0)),ES]) (t:=43) (z:=2) hy rfl rfl (j9 xu).2;have cL:=(fk.a1 eo (by simp)).a1 g2 (by simp);have cS:=(iv.a1 eo (by simp)).a1 g2 (by simp);have ds:=(w7.a1 eo (by simp)).a1 g2 (by simp);have gw:=(c7.a1 eo (by simp)).a1 g2 (by simp);have qK:=iw.a1 g2 (by simp);have W7:=fk.a1 eo (by simp);have JA:=iv.a1 eo (by simp);simp (disch:=omega) only[cW,st,bg,gf,aC,ba,cd,ff,du,fk.bM,iv.bM,he.len,h0,Gw,jT];rw[me];simp (disch:=omega) only[cW,st,ys];rw[EX];have fin:∀(t:S) (A7 ww:V),Loc s t->dN s t s2.n [.bool false,.af] 43 false->dN s t fB.n [.bool false,.af] 43 false->bV .i64 A7 (aL (x / y).natAbs)->bV .i64 ww (aL (x % y).natAbs)->
    ∃t1 t2,e9 (some (cp.cc (.ptr s2.n 0))) (some (cp.cc (.ptr s2.n 0))) t (ef 2 (.ptr s2.n 0) (.agg [.bool (decide (x / y<0)),A7]) (aN t))=some (.bad,t1,⟨⟨some [s2.n],some [s2.n],t.n,t.n⟩,[]⟩)∧
     e9 (some (cp.cc (.ptr fB.n 0))) (some (cp.cc (.ptr fB.n 0))) t1 (ef 2 (.ptr fB.n 0) (.agg [.bool (decide (x % y<0)),ww]) (aN t1))=some (.bad,t2,⟨⟨some [fB.n],some [fB.n],t1.n,t1.n⟩,[]⟩)∧
     ∃v,Uq (x / y) (x % y) v∧bB s t2 [bf 2 t2 (.ptr s2.n 0),bf 2 t2 (.ptr fB.n 0)]=some (v,s):=by
   intro t A7 ww b6 fG iB CW rC;obtain ⟨t1,f1,cy,dR,e6,_⟩:=fG.qJ (r:=some (cp.cc (.ptr s2.n 0))) (w:=some (cp.cc (.ptr s2.n 0))) (z:=2) b6 rfl rfl (j9 CW).2;have FE:=cP.hi;obtain ⟨t2,f2,cm,dF,fo,_⟩:=(iB.a1 e6 (by simp;omega)).qJ (r:=some (cp.cc (.ptr fB.n 0))) (w:=some (cp.cc (.ptr fB.n 0))) (z:=2) dR rfl rfl (j9 rC).2;have s4:=cy.a1 fo (by simp;omega);refine ⟨t1,t2,f1,f2,_,⟨_,_,rfl,⟨A7,rfl,CW⟩,⟨ww,rfl,rC⟩⟩,?_⟩;rw[s4.bM.2.2,cm.bM.2.2];exact xh (OC (j9 CW).1 (j9 rC).1) D dF.eK
  have auu:=iw.hi;have KU:=c7.hi;have FE:=cP.hi;have FD:=bU.hi;by_cases PY:x<0∧0<x.natAbs % y.natAbs
  ·obtain ⟨uU,nO⟩:=yK.2 PY;have au2:0<(aL (x.natAbs % y.natAbs)).length:=Hn.2 (AL D);rw[fb]at xu;obtain ⟨v1,t1,yQ,f1,dm,dR,e6,dj⟩:=Xc (e:=3) (z:=1) (len:=1) (r:=some []) nj (J5 (z:=.int .i64 0) (d:=.int .i64 1) rfl) rfl;have AS:cl s t1 3 1 v1 [(1:Int)].length (fp [1]):=dm;obtain ⟨x',lZ,fO,h3⟩:=vM [.bool (decide (decide (x<0)≠decide (y<0)))] [] AS (lR _ _) rfl rfl;obtain ⟨cy,hB,t2,f2,dF,fo,avt,_⟩:=Xz dR fO (λb Y=>(AS.lo Y).1) (rb (decide (decide (x<0)≠decide (y<0))) h3 (EO D) (by simp));simp only[sQ,hp]at f2;rw[show a0 [(1:Int)]=1 from rfl]at hB;have p6:bN (eA (decide (decide (x<0)≠decide (y<0))) ((x.natAbs / y.natAbs:Nat):Int)) (.agg [.bool (decide (eA (decide (decide (x<0)≠decide (y<0))) ((x.natAbs / y.natAbs:Nat):Int)<0)),vI]):=⟨vI,rfl,vS⟩;have auZ:=oi (sR x.natAbs y.natAbs);have lr:(eA (decide (decide (x<0)≠decide (y<0))) ((x.natAbs / y.natAbs:Nat):Int)).natAbs=x.natAbs / y.natAbs:=by rw[Dh _ (Hq _),dZ]
   have alE:(eA (decide (decide (x<0)≠decide (y<0))) 1).natAbs=1:=by rw[Dh _ D];rfl
   have ig:=nm (x:=1) (n:=1) D;obtain ⟨cm,j0,f3⟩:=ln (OS p6 hB (by rw[lr];omega) (by rw[alE];omega)) (df p6.a2 hB.a2) dF.ag;rw[uU]at j0;obtain ⟨A7,rfl,CW⟩:=j0;have uC:∀n,n<GP.n->n∉b4 v1:=λn a5 h=>by have:=dj n h;omega
   have amo:=oM.hi;have kF:=(qK.a1 e6 (by simp)).a1 fo (uC _ D);have atr:=(cL.a1 e6 (by simp)).a1 fo (uC _ D);have aio:=(cS.a1 e6 (by simp)).a1 fo (uC _ D);have ais:=(ds.a1 e6 (by simp)).a1 fo (uC _ D);have aiw:=(gw.a1 e6 (by simp)).a1 fo (uC _ D);have aiy:=(oM.a1 e6 (by simp)).a1 fo (uC _ D);obtain ⟨t3,f4,d5,k6,g9,avu⟩:=kF.qJ (r:=some (cp.cc (.ptr hF.n 0))) (w:=some (cp.cc (.ptr hF.n 0))) (z:=2) dF rfl rfl (j9 CW).2
   replace f4:e9 (some (cp.cc (.ptr hF.n 0))) (some (cp.cc (.ptr hF.n 0))) t2 (ef 2 (.ptr hF.n 0) (.agg [.bool (decide (x / y<0)),A7]) (aN t2))=some (.bad,t3,⟨⟨some [hF.n],some [hF.n],t2.n,t2.n⟩,[]⟩):=f4
   have d2:=aio.a1 g9 (by simp;omega);have d3:=ais.a1 g9 (by simp;omega);have d4:=aiw.a1 g9 (by simp;omega);have d6:=aiy.a1 g9 (by simp;omega);obtain ⟨sx,⟨e1,ei,fG⟩,asJ,t4,f5,Dl,ly,h4,e0⟩:=XA (aP:=false) (st:=true) k6 (by simp[dz.ep he,dz.ep xu]) (ON he xu (gK _) (gK _) D D (by rw[gq,gq];omega));rw[gq,gq,nO]at ei;obtain ⟨aen,ar6,Qm,Ro⟩:=vM [.bool false] [] Dl (lR _ _) rfl rfl;obtain ⟨oN,Zu,t5,f6,xJ,p9,avv,_⟩:=Ca (aP:=false) (st:=true) ly Qm (λb Y=>(Dl.lo Y).1) (λ_ h=>by cases h) (rb false Ro e1 D);simp only[sQ,hp]at f6;rw[ei]at Zu;obtain ⟨ww,rfl,rC⟩:=Zu;rw[show eA false (x % y)=x % y from rfl]at rC f6;have Fa:∀n,n<t3.n->n∉b4 asJ:=λn a5 h=>by have:=e0 n h;omega
   have alM:=d5.hi;have P1:=d6.hi;have alL:=d4.hi;have n5:=d3.hi;have x2:=(d6.a1 h4 (by simp)).a1 p9 (Fa _ P1);have vf:=(d5.a1 h4 (by simp)).a1 p9 (Fa _ alM);have gY:=(d4.a1 h4 (by simp)).a1 p9 (Fa _ alL);have fa:=(d3.a1 h4 (by simp)).a1 p9 (Fa _ n5);obtain ⟨t6,f7,Bh,AH,rF,avw⟩:=x2.put (l:=[.bool (decide (x % y<0)),ww]) (z:=2) xJ rfl rfl (j9 rC).2;have wL:=vf.a1 rF (by simp;omega);have pK:=gY.a1 rF (by simp;omega);have l1:=fa.a1 rF (by simp;omega);obtain ⟨t7,t8,f8,f9,p3⟩:=fin t6 A7 ww AH l1 pK CW rC;have lv:=PY.1;simp (disch:=omega) only[cW,st,bg,e2,du,cL.bM,cS.bM,qK.bM,oM.bM,xu.len,Gw,f1,f2,f3,f4];refine lb (pg (bO:=[_,_,_,_,_,_,_,_,_]) (b:=hF.n) 9 rfl aS ?_) ?_
   ·repeat' first|exact trivial|apply iE.eY|apply iE.lL
    intro c aa;simp only[iu]at aa;subst aa;exact uC _ D
   simp (disch:=omega) only[cW,st,bg,e2,du,d2.bM,d6.bM,f5,f6,f7,wL.bM,Bh.bM,f8,f9];exact lb (Ch D) p3
  obtain ⟨uU,nO⟩:=yK.1 PY;rw[uU]at vS qK;rw[nO]at oM;have al0:bV .i64 ES (aL (x % y).natAbs):=by rw[<-nO];exact xu
  obtain ⟨t1,t2,f1,f2,p3⟩:=fin GP vI ES nj ds gw vS al0;rw[fb]at xu;by_cases lv:x<0;have aY:(aL (x.natAbs % y.natAbs)).length=0:=by rw[show x.natAbs % y.natAbs=0 by omega,jm];rfl
  simp (disch:=omega) only[cW,st,bg,e2,du,cL.bM,oM.bM,qK.bM,xu.len,f1,f2];exact lb (Ch D) p3;simp (disch:=omega) only[cW,st,bg,e2,du,cL.bM,oM.bM,qK.bM,f1,f2];exact lb (Ch D) p3) D
theorem bN.nat{X:Nat}{r:V}(h:bN (X:Int) r):∃d,r=.agg [.bool false,d]∧bV .i64 d (aL X):=by
 obtain ⟨d,rfl,ai⟩:=h;rw[fb]at ai;exact ⟨d,by rw[show decide ((X:Int)<0)=false from e3 D],ai⟩
theorem oS{d:V}{l:List Int}(ai:bV .i64 d l):([.bool false,d]:List V).all bL=true∧([.bool false,d]:List V).all atom=true:=by
 constructor;show (true && (bL d && true))=true;rw[dz.bL ai];rfl;show (true && (atom d && true))=true;rw[bV.atom ai];rfl
theorem Kd(X bJ:Nat):Nat.gcd X bJ=Nat.gcd bJ (X % bJ):=by
 rw[Nat.gcd_comm X bJ,Nat.gcd_rec bJ X,Nat.gcd_comm]
theorem Xf{x y:Int}{a b:V}(av:bN x a)(Y:bN y b)(Z:(aL x.natAbs).length<=1000000)(dK:(aL y.natAbs).length<=1000000):h6 a9 112 [a,b] (bN ((Nat.gcd x.natAbs y.natAbs:Nat):Int)):=λs ae=>
 (Uw (cv aS)).kQ (y.natAbs+1000000000000000002) (by
  obtain ⟨d,rfl,ai⟩:=av;obtain ⟨e,rfl,he⟩:=Y;show eE s _ (HA a9 _ (.agg [.bool (decide (x<0)),d]) (.agg [.bool (decide (y<0)),e]) s);unfold HA;simp only[cw];generalize eO:y.natAbs+1000000000000000002=F;obtain ⟨s1,aC,bb,bk,aB,ed⟩:=eL [.bool (decide (x<0)),d] 43 (Loc.refl ae);obtain ⟨s2,ba,bU,cn,aT,gu⟩:=eL [.bool (decide (y<0)),e] 43 bk;obtain ⟨fB,cd,cP,dM,bp,k7⟩:=eL [.bool false,.af] 43 cn;have fk:=(bb.a1 aT (by simp)).a1 bp (by simp);have iv:=bU.a1 bp (by simp);obtain ⟨u,hu,ff⟩:=hI (aP:=false) (st:=true) (rb false ai (gK _) D) (df rfl (bV.a2 ai)) dM.ag;rw[gq]at hu;obtain ⟨vI,rfl,vS⟩:=bN.nat hu;obtain ⟨hF,h0,c7,eU,eh,o0⟩:=qx (cs:=[.bool false,.af]) (l:=[.bool false,vI]) (t:=43) (z:=2) dM rfl rfl (oS vS).1;have JA:=iv.a1 eh (by simp);obtain ⟨w,hw,jT⟩:=hI (aP:=false) (st:=true) (rb false he (gK _) D) (df rfl (bV.a2 he)) eU.ag;rw[gq]at hw;obtain ⟨EW,rfl,uI⟩:=bN.nat hw;obtain ⟨rT,me,iw,hy,eo,tI⟩:=qx (cs:=[.bool false,.af]) (l:=[.bool false,EW]) (t:=43) (z:=2) eU rfl rfl (oS uI).1;have zK:=c7.a1 eo (by simp);have w7:=(cP.a1 eh (by simp)).a1 eo (by simp);have FE:=cP.hi;have KU:=c7.hi;simp (disch:=omega) only[cW,st,gf,aC,ba,cd,du,fk.bM,ff];rw[h0];simp (disch:=omega) only[cW,st,du,JA.bM,jT];rw[me];simp (disch:=omega) only[cW];refine jO (eE s _) (λk vs t=> ∃(X bJ:Nat) (nH md:V),vs=[.ptr hF.n 0,.ptr fB.n 0,.ptr s2.n 0]∧Loc s t∧dN s t hF.n [.bool false,md] 43 false∧dN s t fB.n [.bool false,nH] 43 false∧dN s t s2.n [.bool false,.af] 43 false∧
   bV .i64 nH (aL X)∧bV .i64 md (aL bJ)∧(aL X).length<=1000000∧(aL bJ).length<=1000000∧Nat.gcd x.natAbs y.natAbs=Nat.gcd X bJ∧k=bJ) ?_ _ y.natAbs _ _
   ⟨x.natAbs,y.natAbs,vI,EW,rfl,hy,iw,zK,w7,vS,uI,Z,dK,rfl,rfl⟩ D
  rintro a3 k _ t ⟨X,bJ,nH,md,rfl,b6,qN,rS,qr,kz,jv,QH,FK,au,rfl⟩ cR;by_cases n4:k=0
  ·subst n4;have aY:(aL 0).length=0:=by rw[jm];rfl
   simp (disch:=omega) only[cW,st,bg,du,qN.bM,rS.bM,jv.len];rw[au,M4];exact ⟨_,bN.wo kz,qO qr b6 ae rfl rfl (oS kz).2⟩
  ·have yW:0<(aL k).length:=Hn.2 (AL n4);by_cases U:(aL X).length<=2∧(aL k).length<=2
   ·have g8:=wG U.1;have uN:=wG U.2;have f1:=hh (aP:=false) (st:=false) (JD kz (gK _) U.1) (fJ kz.a2) b6.ag;have f2:=hh (aP:=false) (st:=false) (JD jv (gK _) U.2) (fJ jv.a2) b6.ag;rw[gq]at f1 f2;have CB:=U.1;have Kw:=U.2;simp (disch:=omega) only[cW,st,bg,du,qN.bM,rS.bM,jv.len,kz.len,f1,f2];refine jO (eE s _) (λj vs u=> ∃(m n:Nat),vs=[.int .i64 n,.int .i64 m,.ptr s2.n 0]∧t=u∧Nat.gcd x.natAbs y.natAbs=Nat.gcd m n∧j=n∧m<1000000000000000000∧n<1000000000000000000) ?_ _ k _ _
     ⟨X,k,rfl,rfl,au,rfl,g8,uN⟩ D
    rintro xE j _ _ ⟨m,n,rfl,rfl,si,rfl,hm,QM⟩ lO;by_cases aG:j=0;subst aG;have amF:ez (m:Int):=by unfold ez;omega
    obtain ⟨c,aa,f3⟩:=hI (aP:=false) (st:=true) (yn (m:Int) amF) (fJ rfl) b6.ag;obtain ⟨jk,rfl,g1⟩:=bN.nat aa;simp (disch:=omega) only[cW,st,bg,show ((0:Nat):Int)=0 from rfl,f3];rw[si,M4];exact ⟨_,bN.wo g1,qO qr b6 ae rfl rfl (oS g1).2⟩;have yT:=x5 m (show j>0 by omega);simp (disch:=omega) only[cW,st,bg];exact lO (m % j) _ _ yT ⟨j,m % j,by rw[zy],rfl,by rw[si];exact Kd m j,rfl,QM,D⟩
   ·have qC:∀K:V->ax,(aF (ic (.bool (decide (((aL X).length:Int)<=2))) true (some (.ptr hF.n 1))) λasF=>aF (ic (.bool (decide (((aL X).length:Int)<=2))) true (cZ t asF)) λasG=>aF (ic (.bool (decide (((aL X).length:Int)<=2))) true (fP asG)) λasH=>
      aF (ic (.bool (decide (((aL X).length:Int)<=2))) true (bH .leq cD asH (.int .i64 2))) λasI=>aF (di (.bool (decide (((aL X).length:Int)<=2))) asI (.bool false)) K)=K (.bool false):=λK=>by
     by_cases aj:(aL X).length<=2;simp (disch:=omega) only[st,bg,du,qN.bM,jv.len];rw[e3 D];simp (disch:=omega) only[st,bg]
    have FN:X % k<k:=x5 _ D;obtain ⟨bM,⟨DA,Mo,rfl,yX,Lf⟩,f1⟩:=hI (aP:=false) (st:=true) (JC (bN.wo kz) (bN.wo jv) D (by rw[fb];exact QH) (by rw[fb];exact FK)) (df (bN.wo kz).a2 (bN.wo jv).a2) b6.ag;obtain ⟨O7,rfl,Qe⟩:=yX;rw[<-zy]at Lf;obtain ⟨zU,rfl,ru⟩:=bN.nat Lf;obtain ⟨t1,f2,cy,dR,e6,_⟩:=eL [.bool false,.af] 43 b6;obtain ⟨t2,f3,cm,dF,fo,_⟩:=eL [.bool false,.af] 43 dR;have hB:=cy.hi;obtain ⟨t3,f4,dc,k6,g9,_⟩:=(cy.a1 fo (by simp)).put (l:=[.bool (decide ((X:Int) / k<0)),O7]) (z:=2) dF rfl rfl (j9 Qe).2;obtain ⟨t4,f5,dw,ly,h4,_⟩:=(cm.a1 g9 (by simp;omega)).put (l:=[.bool false,zU]) (z:=2) k6 rfl rfl (oS ru).1;have am1:=qN.hi;have am0:=rS.hi;have amZ:=qr.hi;have wy:=(((qN.a1 e6 (by simp)).a1 fo (by simp)).a1 g9 (by simp;omega)).a1 h4 (by simp;omega);have Dt:=(((rS.a1 e6 (by simp)).a1 fo (by simp)).a1 g9 (by simp;omega)).a1 h4 (by simp;omega);have xS:=(((qr.a1 e6 (by simp)).a1 fo (by simp)).a1 g9 (by simp;omega)).a1 h4 (by simp;omega);obtain ⟨t5,f6,Ss,xJ,p9,_⟩:=Dt.put (l:=[.bool false,md]) (z:=2) ly rfl rfl (oS jv).1;have JG:=dw.a1 p9 (by simp;omega);obtain ⟨t6,f7,St,AH,rF,_⟩:=(wy.a1 p9 (by simp;omega)).put (l:=[.bool false,zU]) (z:=2) xJ rfl rfl (oS ru).1;simp (disch:=omega) only[cW,st,bg,du,qN.bM,rS.bM,jv.len,kz.len];rw[qC];simp (disch:=omega) only[cW,st,bg,du,qN.bM,rS.bM,f1,f2,f3,f4,f5,wy.bM,f6,JG.bM,f7];exact cR (X % k) _ _ FN ⟨k,X % k,md,zU,rfl,AH,St,Ss.a1 rF (by simp;omega),(xS.a1 p9 (by simp;omega)).a1 rF (by simp;omega),jv,ru,FK,by have:=oi (nY FN);omega,by rw[au];exact Kd X k,rfl⟩) D
def lH(neg:Bool)(l:List Int)(r:V):Prop:= ∃d,r=.agg [.bool neg,d]∧bV .i64 d l
theorem lH.atoms{neg:Bool}{l:List Int}{d:V}(ai:bV .i64 d l):([.bool neg,d]:List V).all bL=true∧([.bool neg,d]:List V).all atom=true:=by
 constructor;show (bL (.bool neg) && (bL d && true))=true;rw[dz.bL ai];rfl;show (atom (.bool neg) && (atom d && true))=true;rw[bV.atom ai];rfl
theorem lH.a2{neg:Bool}{l:List Int}{r:V}(h:lH neg l r):X.a2 r=true:=by
 obtain ⟨d,rfl,ai⟩:=h;exact (lH.atoms ai).2
def Gy(x:Int):Bool:=decide (0<=x) && decide (x<1000000000)
def tA(neg:Bool)(l:List Int):Bool:=l.all Gy && (if l.length=0 then !neg else decide (l.getD (l.length - 1) 0≠0))
theorem L2(x:Int):Gy x=true↔0<=x∧x<1000000000:=by unfold Gy;simp
theorem RE{neg:Bool}{l:List Int}(h:tA neg l=true):ea l∧trim l∧aL (a0 l).toNat=l∧(eA neg (a0 l)).natAbs=(a0 l).toNat∧decide (eA neg (a0 l)<0)=neg∧(l=[]->neg=false):=by
 unfold tA at h;rw[dU]at h;have ai:ea l:=λx hx=>(L2 x).1 (fj.1 h.1 x hx);have aO:trim l:=λey=>by
  have:=h.2;rw[if_neg (λaR=>ey (vq.1 aR))]at this;simpa using this
 have a5:=R6 ai aO;have ad:=nw ai;have aR:l=[]->neg=false:=λZ=>by
  have:=h.2;rw[Z]at this;simpa using this
 refine ⟨ai,aO,a5,Dh neg ad,?_,aR⟩;by_cases Z:l=[];rw[aR Z,Z];rfl;refine Ms neg ?_;rcases (show a0 l=0∨0<a0 l by omega) with J|J
 rw[J]at a5;exact absurd (a5.symm.trans jm) Z;exact J
theorem lH.yp{neg:Bool}{l:List Int}{r:V}(h:lH neg l r)(hi:tA neg l=true):bN (eA neg (a0 l)) r:=by
 obtain ⟨d,rfl,ai⟩:=h;obtain ⟨_,_,J,U,aj,_⟩:=RE hi;exact ⟨d,by rw[aj],by rw[U,J];exact ai⟩
theorem Xj{neg:Bool}{l:List Int}{a:V}(av:lH neg l a)(Z:l.length<=1000000000):km a9 160 [a] (.bool (tA neg l)):=λs ae=>
 (U3 (cv aS)).run (l.length+1) (by
  obtain ⟨d,rfl,ai⟩:=av;show H7 a9 _ (.agg [.bool neg,d]) s=_;unfold H7;simp only[cw];generalize eO:l.length+1=F;obtain ⟨s1,aC,bb,bk,aB,ed⟩:=eL [.bool neg,d] 43 (Loc.refl ae);simp (disch:=omega) only[eI,gf,aC,st];refine jO (λr=>r=_) (λk vs t=> ∃i:Nat,vs=[.int .i64 i,.ptr s.n 0]∧s1=t∧i+k=l.length∧(l.take i).all Gy=true) ?_ _ l.length _ _ ⟨0,rfl,rfl,D,rfl⟩ D;rintro a3 k _ _ ⟨i,rfl,rfl,hk,jJ⟩ cR;by_cases hi:i<l.length;have bad:Gy (l.getD i 0)=false->tA neg l=false:=λh=>by
   unfold tA;rw[Bool.and_eq_false_iff];left;rw[List.all_eq_false];exact ⟨_,PD l 0 hi,by rw[h];exact Bool.false_ne_true⟩
  by_cases J:l.getD i 0<0;simp (disch:=omega) only[eI,st,bg,du,bb.bM,ai.len,ai.c1,hb,dZ];rw[e7 rfl D bk.eK,bad (Bool.eq_false_iff.2 λh=>by have:=(L2 _).1 h;omega)];by_cases U:1000000000<=l.getD i 0;simp (disch:=omega) only[eI,st,bg,du,bb.bM,ai.len,ai.c1,hb,dZ];rw[e7 rfl D bk.eK,bad (Bool.eq_false_iff.2 λh=>by have:=(L2 _).1 h;omega)];simp (disch:=omega) only[eI,st,bg,du,bb.bM,ai.len,ai.c1,hb,dZ,bT];refine cR (k - 1) _ _ D ⟨i+1,rfl,rfl,D,?_⟩;have:l.take (i+1)=l.take i++ [l.getD i 0]:=by rw[List.take_add_one];simp[hi]
  rw[this,Bx,jJ,gS,pM,(L2 _).2 ⟨D,D⟩];rfl;rw[l2 D]at jJ;by_cases aR:l.length=0;simp (disch:=omega) only[eI,st,bg,du,bb.bM,ai.len,o8];rw[e7 rfl D bk.eK];unfold tA;rw[jJ,if_pos aR];rfl;simp (disch:=omega) only[eI,st,bg,du,bb.bM,ai.len,ai.c1,hb,bT,show ((l.length:Int) - 1).toNat=l.length - 1 by omega];rw[e7 rfl D bk.eK];unfold tA;rw[jJ,if_neg aR];rfl) D
theorem lH.zero:lH false [] (.agg [.bool false,.af]):=⟨.af,rfl,bV.nil _⟩
def pe(k8:Bool)(iA:List Int)(mu:Bool)(gB:List Int)(r:V):Prop:= ∃d e,r=.agg [.bool k8,d,.bool mu,e]∧bV .i64 d iA∧bV .i64 e gB
theorem pe.atoms{k8 mu:Bool}{iA gB:List Int}{d e:V}(ai:bV .i64 d iA)(he:bV .i64 e gB):([.bool k8,d,.bool mu,e]:List V).all bL=true∧([.bool k8,d,.bool mu,e]:List V).all atom=true:=by
 constructor;show (bL (.bool k8) && (bL d && (bL (.bool mu) && (bL e && true))))=true;rw[dz.bL ai,dz.bL he];rfl;show (atom (.bool k8) && (atom d && (atom (.bool mu) && (atom e && true))))=true;rw[bV.atom ai,bV.atom he];rfl
theorem pe.a2{k8 mu:Bool}{iA gB:List Int}{r:V}(h:pe k8 iA mu gB r):X.a2 r=true:=by
 obtain ⟨d,e,rfl,ai,he⟩:=h;exact (pe.atoms ai he).2
def j3(q:Nat):List Int:=if q=1 then [] else aL q
def sX(p:Int)(q:Nat):Prop:=0<q∧Nat.gcd p.natAbs q=1
def jf(p:Int)(q:Nat)(r:V):Prop:=pe (decide (p<0)) (aL p.natAbs) false (j3 q) r
theorem jf.a2{p:Int}{q:Nat}{r:V}(h:jf p q r):X.a2 r=true:=pe.a2 h
theorem acK(q:Nat):(j3 q).length<=(aL q).length:=by unfold j3;split<;>simp
theorem Sx{q:Nat}(h:0<q):(j3 q).length=0↔q=1:=by
 unfold j3;split;rename_i J;simp[J];rename_i J;constructor;intro U;have:=xN (vq.1 U);omega;intro U;exact absurd U J
theorem xa{p:Int}{q:Nat}{a:V}(av:jf p q a)(a7:0<q):h6 a9 69 [a] (bN (q:Int)):=λs ae=>
 (VS (cv aS)).kQ 0 (by
  obtain ⟨d,e,rfl,ai,he⟩:=av;show eE s _ (I1 a9 0 (.agg [.bool (decide (p<0)),d,.bool false,e]) s);unfold I1;simp only[cw];obtain ⟨s1,aC,bb,bk,aB,ed⟩:=eL [.bool (decide (p<0)),d,.bool false,e] 45 (Loc.refl ae);obtain ⟨s2,ba,bU,cn,aT,gu⟩:=eL [.bool false,.af] 43 bk;have fk:=bb.a1 aT (by simp);have aM:a6 1 (.ptr s.n 2)=some (.ptr s.n 3):=rfl;simp (disch:=omega) only[cW,st,bg,gf,aC,ba,du,aM,fk.hL,he.len];by_cases J:q=1;have aY:=(Sx a7).2 J;obtain ⟨c,aa,cd⟩:=hI (aP:=false) (st:=true) (yn 1 (by unfold ez;omega)) (fJ rfl) cn.ag;obtain ⟨jk,rfl,g1⟩:=aa;simp (disch:=omega) only[cW,st,cd];rw[J];exact ⟨_,⟨jk,rfl,g1⟩,qO bU cn ae rfl rfl (j9 g1).1⟩;have aY: ¬(j3 q).length=0:=λh=>J ((Sx a7).1 h);have uV:j3 q=aL q:=by unfold j3;rw[if_neg J]
  rw[uV]at he;simp (disch:=omega) only[cW,st,du,fk.hL];exact ⟨_,bN.wo he,qO bU cn ae rfl rfl (oS he).2⟩) D
def xQ(neg:Bool)(l:List Int):Bool:= !neg && (decide (l.length=1) && decide (l.getD 0 0=1))
theorem OM{neg:Bool}{l:List Int}{a:V}(av:lH neg l a)(Z:l.length<=1000000000):km a9 115 [a] (.bool (xQ neg l)):=λs ae=>
 (Uz (cv aS)).run 0 (by
  obtain ⟨d,rfl,ai⟩:=av;show HD a9 0 (.agg [.bool neg,d]) s=_;unfold HD;simp only[cw];obtain ⟨s1,aC,bb,bk,aB,ed⟩:=eL [.bool neg,d] 43 (Loc.refl ae);unfold xQ;cases neg with
  |true=>
   simp (disch:=omega) only[eI,st,bg,gf,aC,du,bb.bM];exact e7 rfl D bk.eK
  |false=>
   by_cases J:l.length=1;simp (disch:=omega) only[eI,st,bg,gf,aC,du,bb.bM,ai.len,J,ne_eq,not_true,ai.c1,hb,Int.toNat_zero];rw[e7 rfl D bk.eK];simp;simp (disch:=omega) only[eI,st,bg,gf,aC,du,bb.bM,ai.len];rw[e7 rfl D bk.eK];simp[J]) D
theorem ab4(x:Int):xQ (decide (x<0)) (aL x.natAbs)=decide (x=1):=by
 unfold xQ;by_cases h:x=1;subst h;rw[show (1:Int).natAbs=1 from rfl,tJ D,show 1 / 1000000000=0 from rfl,jm];rfl;rw[e3 h,Bool.and_eq_false_iff,Bool.and_eq_false_iff];by_cases hx:x<0;left;simp[hx];right;by_cases J:(aL x.natAbs).length=1;right;have ad:=gq x.natAbs;rw[decide_eq_false_iff_not];intro U
 match a5:aL x.natAbs,J with
 |[y],_=>
  rw[a5]at ad U;simp[a0]at ad U;omega
 left;simp[J]
theorem ab5(q:Nat):xQ false (aL q)=decide (q=1):=by
 have:=ab4 (q:Int);rw[fb,show decide ((q:Int)<0)=false from e3 D]at this;rw[this];exact decide_eq_decide.2 D
def l6(m n:Nat)(r:V):Prop:= ∃p q,sX p q∧jf p q r∧p.natAbs<=m∧q<=n
theorem l6.a2{m n:Nat}{r:V}(h:l6 m n r):X.a2 r=true:=by
 obtain ⟨p,q,_,h,_⟩:=h;exact h.a2
def pd(p q:Int)(m n:Nat)(r:V):Prop:= ∃P Q,sX P Q∧jf P Q r∧P.natAbs<=m∧Q<=n∧(q≠0->P*q=p*(Q:Int))
theorem pd.pm{p q:Int}{m n:Nat}{r:V}(h:pd p q m n r):l6 m n r:=by
 obtain ⟨P,Q,J,U,aj,aH,_⟩:=h;exact ⟨P,Q,J,U,aj,aH⟩
theorem L9{cz:bt}{f:Nat}{args:List V}{p q:Int}{m n:Nat}(h:h6 cz f args (pd p q m n)):h6 cz f args (l6 m n):=λs ae=>by
 obtain ⟨v,J,U⟩:=h s ae;exact ⟨v,J.pm,U⟩
theorem E2{p:Int}{G:Nat}(ai:G ∣ p.natAbs):p / (G:Int)*(G:Int)=p:=Int.ediv_mul_cancel (Int.ofNat_dvd_left.2 ai)
theorem E3{p:Int}{G:Nat}(jI:0<G)(ai:G ∣ p.natAbs):(p / (G:Int)).natAbs=p.natAbs / G∧(p / (G:Int)<0↔p<0):=by
 obtain ⟨k,hk⟩:=ai;have a7:p.natAbs / G=k:=by rw[hk,Nat.mul_div_cancel_left _ jI]
 rcases (show 0<=p∨p<0 by omega) with h|h
 have al:p=(k:Int)*G:=by rw[<-wO,Nat.mul_comm,<-hk];omega
 have:p / (G:Int)=k:=by rw[al];exact Int.mul_ediv_cancel _ D
 rw[this,a7];omega;have al:p=(-(k:Int))*G:=by rw[zx,<-wO,Nat.mul_comm,<-hk];omega
 have J:p / (G:Int)= -(k:Int):=by
  have:(-(k:Int))*G / (G:Int)= -(k:Int):=Int.mul_ediv_cancel _ D;rw[<-al]at this;exact this
 have ZV:k≠0:=by rintro rfl;rw[Nat.mul_zero]at hk;omega
 rw[J,a7];omega
theorem Ye(x y z w a b c d:V):bW [x,y,z,w] [(0,2,.agg [a,b]),(2,2,.agg [c,d])]=some (.agg [a,b,c,d]):=rfl
theorem Yf(x y z w a b:V):bW [x,y,z,w] [(0,2,.agg [a,b])]=some (.agg [a,b,z,w]):=rfl
theorem JH{p q:Int}{a b:V}(av:bN p a)(Y:bN q b)(Z:(aL p.natAbs).length<=1000000)(dK:(aL q.natAbs).length<=1000000):h6 a9 66 [a,b] (pd p q p.natAbs (max 1 q.natAbs)):=λs ae=>
 (VP (cv aS)).kQ 0 (by
  have jZ:=av;have ft:=Y;obtain ⟨d,rfl,ai⟩:=av;obtain ⟨e,rfl,he⟩:=Y;show eE s _ (IY a9 0 (.agg [.bool (decide (p<0)),d]) (.agg [.bool (decide (q<0)),e]) s);unfold IY;simp only[cw];obtain ⟨s1,aC,bb,bk,aB,ed⟩:=eL [.bool (decide (p<0)),d] 43 (Loc.refl ae);obtain ⟨s2,ba,bU,cn,aT,gu⟩:=eL [.bool (decide (q<0)),e] 43 bk;obtain ⟨fB,cd,cP,dM,bp,k7⟩:=eL [.bool false,.af,.bool false,.af] 45 cn;have fk:=(bb.a1 aT (by simp)).a1 bp (by simp);have iv:=bU.a1 bp (by simp);by_cases aY:q=0∨p=0;have iL:eE s (pd p q p.natAbs (max 1 q.natAbs)) (bZ (c6 fB (ef 4 (.ptr s2.n 0) (.agg [.bool false,.af,.bool false,.af]) (aN fB))) λ_ s'=>bB s s' [bf 4 s' (.ptr s2.n 0)]):=
   ⟨_,⟨0,1,⟨D,rfl⟩,⟨.af,.af,rfl,by rw[show (0:Int).natAbs=0 from rfl,jm];exact bV.nil _,bV.nil _⟩,by simp,D,λh=>by rw[show p=0 by omega];simp⟩,qO cP dM ae rfl rfl rfl⟩
  by_cases a7:q=0;have aR:(aL q.natAbs).length=0:=by rw[a7,show (0:Int).natAbs=0 from rfl,jm];rfl
  simp (disch:=omega) only[cW,st,bg,gf,aC,ba,cd,du,fk.bM,iv.bM,he.len,uB];exact iL;have aR:(aL p.natAbs).length=0:=by rw[show p=0 by omega,show (0:Int).natAbs=0 from rfl,jm];rfl
  have J: ¬(aL q.natAbs).length=0:=λh=>by have:=xN (vq.1 h);omega
  simp (disch:=omega) only[cW,st,bg,gf,aC,ba,cd,du,fk.bM,iv.bM,ai.len,he.len,uB];exact iL;have a7: ¬(aL q.natAbs).length=0:=λh=>by have:=xN (vq.1 h);omega
  have al: ¬(aL p.natAbs).length=0:=λh=>by have:=xN (vq.1 h);omega
  obtain ⟨g,au,f1⟩:=hI (aP:=false) (st:=true) (Xf jZ ft Z dK) (df jZ.a2 ft.a2) dM.ag;have yG:Nat.gcd p.natAbs q.natAbs ∣ p.natAbs:=Nat.gcd_dvd_left _ _;have xm:Nat.gcd p.natAbs q.natAbs ∣ q.natAbs:=Nat.gcd_dvd_right _ _;have xl:0<Nat.gcd p.natAbs q.natAbs:=Nat.gcd_pos_of_pos_left _ D;have Qa:=Nat.coprime_div_gcd_div_gcd (m:=p.natAbs) (n:=q.natAbs) xl;have YV:(aL (Nat.gcd p.natAbs q.natAbs)).length<=1000000:=by have:=oi (Nat.le_of_dvd D yG);omega
  generalize Nat.gcd p.natAbs q.natAbs=G at*;obtain ⟨nN,tr⟩:=E3 xl yG;obtain ⟨uU,QW⟩:=E3 xl xm;obtain ⟨EM,rfl,KM⟩:=bN.nat au;obtain ⟨hF,f2,c7,eU,eh,o0⟩:=qx (cs:=[.bool false,.af]) (l:=[.bool false,EM]) (t:=43) (z:=2) dM rfl rfl (oS KM).1;have W7:=fk.a1 eh (by simp);have JA:=iv.a1 eh (by simp);have ahB:=cP.a1 eh (by simp);have YX:((G:Nat):Int)≠0:=D;have YW:(aL ((G:Nat):Int).natAbs).length<=1000000:=by rw[fb];exact YV
  obtain ⟨fQ,⟨de,fV,rfl,aar,qD⟩,f3⟩:=hI (aP:=false) (st:=true) (JC jZ au YX Z YW) (df jZ.a2 au.a2) eU.ag;obtain ⟨JZ,rfl,Qh⟩:=aar;obtain ⟨ajs,rfl,al2⟩:=qD;obtain ⟨t1,f4,cy,dR,e6,_⟩:=eL [.bool false,.af] 43 eU;obtain ⟨t2,f5,cm,dF,fo,_⟩:=eL [.bool false,.af] 43 dR;have aH:=c7.hi;have aj:=cP.hi;have hB:=cy.hi;obtain ⟨t3,f6,dc,k6,g9,_⟩:=(cy.a1 fo (by simp)).put (l:=[.bool (decide (p / (G:Int)<0)),JZ]) (z:=2) dF rfl rfl (j9 Qh).2;obtain ⟨t4,f7,dw,ly,h4,_⟩:=(cm.a1 g9 (by simp;omega)).put (l:=[.bool (decide (p % (G:Int)<0)),ajs]) (z:=2) k6 rfl rfl (j9 al2).2;have B5:=dc.a1 h4 (by simp;omega);have cS:=(((JA.a1 e6 (by simp)).a1 fo (by simp)).a1 g9 (by have:=bU.hi;simp;omega)).a1 h4 (by have:=bU.hi;simp;omega);have ds:=(((ahB.a1 e6 (by simp)).a1 fo (by simp)).a1 g9 (by simp;omega)).a1 h4 (by simp;omega);have gw:=(((c7.a1 e6 (by simp)).a1 fo (by simp)).a1 g9 (by simp;omega)).a1 h4 (by simp;omega);obtain ⟨bM,⟨ej,fH,rfl,aas,uX⟩,f8⟩:=hI (aP:=false) (st:=true) (JC ft au YX dK YW) (df ft.a2 au.a2) ly.ag;obtain ⟨J0,rfl,KN⟩:=aas;obtain ⟨ajt,rfl,al3⟩:=uX;obtain ⟨t5,f9,kF,xJ,p9,_⟩:=eL [.bool false,.af] 43 ly;obtain ⟨t6,f10,ma,AH,rF,_⟩:=eL [.bool false,.af] 43 xJ;have alT:=kF.hi;have yI:=B5.hi;have amW:=ds.hi;obtain ⟨t7,f11,B6,RT,RF,_⟩:=(kF.a1 rF (by simp)).put (l:=[.bool (decide (q / (G:Int)<0)),J0]) (z:=2) AH rfl rfl (j9 KN).2;obtain ⟨t8,f12,B8,RU,RG,_⟩:=(ma.a1 RF (by simp;omega)).put (l:=[.bool (decide (q % (G:Int)<0)),ajt]) (z:=2) RT rfl rfl (j9 al3).2;have B7:=B6.a1 RG (by simp;omega);have fG:=(((B5.a1 p9 (by simp)).a1 rF (by simp)).a1 RF (by simp;omega)).a1 RG (by simp;omega);have xS:=(((ds.a1 p9 (by simp)).a1 rF (by simp)).a1 RF (by simp;omega)).a1 RG (by simp;omega);have fin:∀(t:S) (P:Int) (Q:Nat) (nH md:V),Loc s t->dN s t hF.n [.bool (decide (P<0)),nH] 43 false->dN s t t4.n [.bool false,md] 43 false->dN s t s2.n [.bool false,.af,.bool false,.af] 45 false->
    bV .i64 nH (aL P.natAbs)->bV .i64 md (aL Q)->P.natAbs=p.natAbs / G->Q=q.natAbs / G->P*q=p*(Q:Int)->
    cJ a9 false false (.fn 115 [] []) [.agg [.bool false,md]] t=some (.bool (decide (Q=1)),t)∧
    eE s (pd p q p.natAbs (max 1 q.natAbs)) (if Q=1 then (bZ (c6 t (ef 4 (.ptr s2.n 0) (.agg [.bool (decide (P<0)),nH,.bool false,.af]) (aN t))) λ_ s'=>bB s s' [bf 4 s' (.ptr s2.n 0)]) else
     (bZ (c6 t (ef 4 (.ptr s2.n 0) (.agg [.bool (decide (P<0)),nH,.bool false,md]) (aN t))) λ_ s'=>bB s s' [bf 4 s' (.ptr s2.n 0)])):=by
   intro t P Q nH md b6 gx TC aet kz jv cQ hK Y0;have qA:(aL Q).length<=1000000:=by have:=oi (sR q.natAbs G);rw[hK];omega
   have dj:=hh (aP:=false) (st:=false) (OM (neg:=false) (l:=aL Q) ⟨md,rfl,jv⟩ D) (fJ (oS jv).2) b6.ag;rw[ab5]at dj;refine ⟨dj,?_⟩;have ald:0<Q:=by rw[hK];exact Nat.div_pos (Nat.le_of_dvd D xm) xl
   have jX:sX P Q:=⟨ald,by rw[cQ,hK];exact Qa⟩;have Y2:P.natAbs<=p.natAbs:=by rw[cQ];exact sR _ _
   have Y5:Q<=max 1 q.natAbs:=by have:=sR q.natAbs G;omega
   split;rename_i J;refine ⟨_,⟨P,Q,jX,⟨nH,.af,rfl,kz,by unfold j3;rw[if_pos J];exact bV.nil _⟩,Y2,Y5,λ_=>Y0⟩,qO aet b6 ae rfl rfl (pe.atoms kz (bV.nil _)).2⟩;rename_i J;refine ⟨_,⟨P,Q,jX,⟨nH,md,rfl,kz,by unfold j3;rw[if_neg J];exact jv⟩,Y2,Y5,λ_=>Y0⟩,qO aet b6 ae rfl rfl (pe.atoms kz jv).2⟩
  have aaN:∀(Q:Nat) (A B:ax),aW (.bool (decide (Q=1))) A B=if Q=1 then A else B:=λQ A B=>by
   by_cases h:Q=1;rw[Cc _ _ h,if_pos h];rw[EJ _ _ h,if_neg h]
  simp (disch:=omega) only[cW,st,bg,gf,aC,ba,cd,du,fk.bM,iv.bM,ai.len,he.len,f1];rw[f2];simp (disch:=omega) only[cW,st,W7.bM,c7.bM,f3,f4,f5,f6,f7,cS.bM,gw.bM,f8,f9,f10,f11,f12,du,B7.bM];by_cases a5:q / (G:Int)<0;have Zv:bN (p / (G:Int)) (.agg [.bool (decide (p / (G:Int)<0)),JZ]):=⟨JZ,rfl,Qh⟩;have Zw:bN (q / (G:Int)) (.agg [.bool (decide (q / (G:Int)<0)),J0]):=⟨J0,rfl,KN⟩;have gF:=oi (sR p.natAbs G);have Aq:=oi (sR q.natAbs G);obtain ⟨v1,CX,dj⟩:=hI (aP:=false) (st:=true) (OL Zv (by rw[nN];omega)) (fJ Zv.a2) RU.ag;obtain ⟨XW,rfl,ZC⟩:=CX;obtain ⟨t9,dL,cD,abz,aaR,_⟩:=fG.put (l:=[.bool (decide (-(p / (G:Int))<0)),XW]) (z:=2) RU rfl rfl (j9 ZC).2;have Ap:=fG.hi;have auY:=xS.hi;have aug:=B7.hi;have TE:=B7.a1 aaR (by simp;omega);obtain ⟨v2,y3,eH⟩:=hI (aP:=false) (st:=true) (OL Zw (by rw[uU];omega)) (fJ Zw.a2) abz.ag;obtain ⟨XX,rfl,Qi⟩:=y3;have PO:decide (-(q / (G:Int))<0)=false:=e3 D;rw[PO]at eH;obtain ⟨t10,e0,TF,ao3,aaQ,_⟩:=TE.put (l:=[.bool false,XX]) (z:=2) abz rfl rfl (lH.atoms Qi).1;have aev:=cD.a1 aaQ (by simp;omega);obtain ⟨mK,rl⟩:=fin t10 (-(p / (G:Int))) (q.natAbs / G) XW XX ao3 aev TF ((xS.a1 aaR (by simp;omega)).a1 aaQ (by simp;omega)) ZC (by rw[D1,uU]at Qi;exact Qi) (by rw[D1,nN]) rfl (by
   have t1:=E2 yG;have t2:=E2 xm;have t3:((q.natAbs / G:Nat):Int)= -(q / (G:Int)):=D;rw[t3];generalize p / (G:Int)=A at*;generalize q / (G:Int)=B at*;rw[<-t1,<-t2]
   grind)
  simp (disch:=omega) only[cW,st,fG.bM,dj,dL,TE.bM,eH,e0,TF.bM,aev.bM,mK,Ye,Yf,aaN];exact rl;have PO:decide (q / (G:Int)<0)=false:=e3 a5;rw[PO]at B7 ⊢;obtain ⟨mK,rl⟩:=fin t8 (p / (G:Int)) (q.natAbs / G) JZ J0 RU fG B7 xS Qh (by rw[uU]at KN;exact KN) nN rfl (by
   have t1:=E2 yG;have t2:=E2 xm;have t3:((q.natAbs / G:Nat):Int)=q / (G:Int):=D;rw[t3];generalize p / (G:Int)=A at*;generalize q / (G:Int)=B at*;rw[<-t1,<-t2]
   grind)
  simp (disch:=omega) only[cW,st,B7.bM,fG.bM,mK,Ye,Yf,aaN];exact rl) D
theorem aix{p q:Int}{a b:V}(av:bN p a)(Y:bN q b)(Z:(aL p.natAbs).length<=1000000)(dK:(aL q.natAbs).length<=1000000):h6 a9 66 [a,b] (l6 p.natAbs (max 1 q.natAbs)):=L9 (JH av Y Z dK)
theorem Xr{p q:Int}(al:ez p)(a7:ez q):h6 a9 28 [.int .i64 p,.int .i64 q] (pd p q p.natAbs (max 1 q.natAbs)):=λs ae=>
 (Vx (cv aS)).kQ 0 (by
  show eE s _ (IE a9 0 (.int .i64 p) (.int .i64 q) s);unfold IE;simp only[cw];have J:=al.1;have U:=al.2;have aj:=a7.1;have aH:=a7.2;have K1:=nm (x:=p.natAbs) (n:=3) D;have amD:=nm (x:=q.natAbs) (n:=3) D;obtain ⟨s1,aC,bb,bk,aB,ed⟩:=eL [.bool false,.af,.bool false,.af] 45 (Loc.refl ae);obtain ⟨a,av,f1⟩:=hI (aP:=false) (st:=true) (yn p al) (fJ rfl) bk.ag;obtain ⟨b,Y,f2⟩:=hI (aP:=false) (st:=true) (yn q a7) (fJ rfl) bk.ag;obtain ⟨r,E,f3⟩:=hI (aP:=false) (st:=true) (JH av Y D D) (df av.a2 Y.a2) bk.ag;simp (disch:=omega) only[cW,st,aC,f1,f2,f3];obtain ⟨P,Q,jX,m5,vQ,rp,n5⟩:=E;have vO:=m5;obtain ⟨d,e,rfl,ai,he⟩:=m5;exact ⟨_,⟨P,Q,jX,vO,vQ,rp,n5⟩,qO bb bk ae rfl rfl (pe.atoms ai he).2⟩) D
theorem Xq{p q:Int}(al:ez p)(a7:ez q):h6 a9 28 [.int .i64 p,.int .i64 q] (l6 p.natAbs (max 1 q.natAbs)):=L9 (Xr al a7)
theorem gm:(∀(o:Option (V×S)) (s:S),gJ (.bool true) true o s=o)∧(∀(o:Option (V×S)) (s:S),gJ (.bool false) false o s=o)∧(∀(o:Option (V×S)) (s:S),gJ (.bool true) false o s=some (.da [],s))∧(∀(o:Option (V×S)) (s:S),gJ (.bool false) true o s=some (.da [],s))∧(∀(w:Bool) (o:Option (V×S)) (s:S),gJ (.da []) w o s=some (.da [],s)):=
 ⟨λ_ _=>rfl,λ_ _=>rfl,λ_ _=>rfl,λ_ _=>rfl,λ_ _ _=>rfl⟩
theorem Ck(b:Nat):a6 0 (.ptr b 2)=some (.ptr b 2)∧a6 1 (.ptr b 2)=some (.ptr b 3):=⟨rfl,rfl⟩
def adb(k8:Bool)(iA:List Int)(mu:Bool)(gB:List Int):Bool:=tA k8 iA && (tA mu gB && (!mu && (!xQ mu gB && (decide (gB.length=0) || decide (Nat.gcd (a0 iA).toNat (a0 gB).toNat=1)))))
theorem ah8{k8 mu:Bool}{iA gB:List Int}{a:V}(av:pe k8 iA mu gB a)(Z:iA.length<=1000000)(dK:gB.length<=1000000):km a9 111 [a] (.bool (adb k8 iA mu gB)):=λs ae=>
 (Uv (cv aS)).run 0 (by
  obtain ⟨d,e,rfl,ai,he⟩:=av;show Hz a9 0 (.agg [.bool k8,d,.bool mu,e]) s=_;unfold Hz;simp only[cw];obtain ⟨s1,aC,bb,bk,aB,ed⟩:=eL [.bool k8,d,.bool mu,e] 45 (Loc.refl ae);have cQ:lH k8 iA (.agg [.bool k8,d]):=⟨d,rfl,ai⟩;have hK:lH mu gB (.agg [.bool mu,e]):=⟨e,rfl,he⟩;have f1:=hh (aP:=false) (st:=false) (Xj cQ D) (fJ cQ.a2) bk.ag;have f2:=hh (aP:=false) (st:=false) (Xj hK D) (fJ hK.a2) bk.ag;have f3:=hh (aP:=false) (st:=false) (OM hK D) (fJ hK.a2) bk.ag;unfold adb;cases J:tA k8 iA with
  |false=>
   rw[J]at f1;simp (disch:=omega) only[eI,st,bg,gm,gf,aC,du,Ck,bb.hL,f1,o8,lg];exact e7 rfl D bk.eK
  |true=>
   rw[J]at f1;cases U:tA mu gB with
   |false=>
    rw[U]at f2;simp (disch:=omega) only[eI,st,bg,gm,gf,aC,du,Ck,bb.hL,f1,f2,o8,lg,j6];exact e7 rfl D bk.eK
   |true=>
    rw[U]at f2;cases mu with
    |true=>
     simp (disch:=omega) only[eI,st,bg,gm,gf,aC,du,Ck,bb.hL,f1,f2,o8,j6];exact e7 rfl D bk.eK
    |false=>
     cases aj:xQ false gB with
     |true=>
      rw[aj]at f3;simp (disch:=omega) only[eI,st,bg,gm,gf,aC,du,Ck,bb.hL,f1,f2,f3,o8,j6];exact e7 rfl D bk.eK
     |false=>
      rw[aj]at f3;by_cases aH:gB.length=0;simp (disch:=omega) only[eI,st,bg,gm,gf,aC,du,Ck,bb.hL,f1,f2,f3,o8,j6,he.len];rw[e7 rfl D bk.eK,gi aH];rfl;have Y1:=cQ.yp J;have Y4:=hK.yp U;obtain ⟨_,_,b1,cq,cV,_⟩:=RE J;obtain ⟨_,_,cy,cm,dc,_⟩:=RE U;obtain ⟨g,au,f4⟩:=hI (aP:=false) (st:=false) (Xf Y1 Y4 (by rw[cq,b1];exact Z) (by rw[cm,cy];exact dK)) (df Y1.a2 Y4.a2) bk.ag;rw[cq,cm]at au;obtain ⟨EM,rfl,KM⟩:=bN.nat au;have aun:(aL (Nat.gcd (a0 iA).toNat (a0 gB).toNat)).length<=1000000:=by
       have xz:0<(a0 gB).toNat:=by
        rcases (show (a0 gB).toNat=0∨0<(a0 gB).toNat by omega) with cF|cF
        rw[cF,jm]at cy;rw[<-cy]at aH;exact absurd rfl aH;exact cF
       have:=oi (Nat.le_of_dvd xz (Nat.gcd_dvd_right (a0 iA).toNat (a0 gB).toNat));rw[cy]at this;omega
      have f5:=hh (aP:=false) (st:=false) (OM (neg:=false) ⟨EM,rfl,KM⟩ D) (fJ (oS KM).2) bk.ag;rw[ab5]at f5;simp (disch:=omega) only[eI,st,bg,gm,gf,aC,du,Ck,bb.hL,f1,f2,f3,o8,j6,he.len,f4,f5];rw[e7 rfl D bk.eK,e3 aH];rfl) D
theorem qd(X bJ:Nat):(aL (X*bJ)).length<=(aL X).length+(aL bJ).length:=by
 refine nm ?_;have J:=ou (gK X);have U:=ou (gK bJ);rw[gq,B4]at J U;rw[Nat.pow_add];have aj:X<1000000000 ^ (aL X).length:=D;have aH:bJ<1000000000 ^ (aL bJ).length:=D
 calc X*bJ<=X*1000000000 ^ (aL bJ).length:=Nat.mul_le_mul_left _ D
  _<_:=Nat.mul_lt_mul_of_pos_right aj (Nat.pow_pos D)
theorem Xv{p dA:Int}{q q':Nat}{a b:V}(av:jf p q a)(Y:jf dA q' b)(a7:0<q)(kK:0<q')(Z:(aL p.natAbs).length<=1000000∧(aL q).length<=1000000)(dK:(aL dA.natAbs).length<=1000000∧(aL q').length<=1000000):
  km a9 78 [a,b] (.int .i64 (e8 (p*q') (dA*q))):=λs ae=>
 (VU (cv aS)).run 0 (by
  have jZ:=av;have ft:=Y;obtain ⟨d,e,rfl,ai,he⟩:=av;obtain ⟨bK,aZ,rfl,eP,mi⟩:=Y;show I3 a9 0 (.agg [.bool (decide (p<0)),d,.bool false,e]) (.agg [.bool (decide (dA<0)),bK,.bool false,aZ]) s=_;unfold I3;simp only[cw];obtain ⟨s1,aC,bb,bk,aB,ed⟩:=eL [.bool (decide (p<0)),d,.bool false,e] 45 (Loc.refl ae);obtain ⟨s2,ba,bU,cn,aT,gu⟩:=eL [.bool (decide (dA<0)),bK,.bool false,aZ] 45 bk;have fk:=bb.a1 aT (by simp);have cQ:bN p (.agg [.bool (decide (p<0)),d]):=⟨d,rfl,ai⟩;have tg:bN dA (.agg [.bool (decide (dA<0)),bK]):=⟨bK,rfl,eP⟩;obtain ⟨u,hu,f1⟩:=hI (aP:=true) (st:=false) (xa ft kK) (fJ ft.a2) cn.ag;obtain ⟨kS,p6,f2⟩:=hI (aP:=true) (st:=false) (xa jZ a7) (fJ jZ.a2) cn.ag;obtain ⟨w,hw,f3⟩:=hI (aP:=true) (st:=false) (w9 cQ hu D (by rw[fb];omega)) (df cQ.a2 hu.a2) cn.ag;obtain ⟨w',pv,f4⟩:=hI (aP:=true) (st:=false) (w9 tg p6 D (by rw[fb];omega)) (df tg.a2 p6.a2) cn.ag;have dR:=qd p.natAbs q';have dF:=qd dA.natAbs q;have f5:=hh (aP:=true) (st:=false) (OO hw pv (by rw[mC,fb];omega) (by rw[mC,fb];omega)) (df hw.a2 pv.a2) cn.ag;simp (disch:=omega) only[eI,st,gf,aC,ba,du,fk.hL,bU.hL,f1,f2,f3,f4,f5];rw[e7 rfl D cn.eK]) D
end Go.ah.X
