/-
  A part: lemmas; conditions: those that each names.
-/
import Derived.Test.YtalmddmghdinkaaGreatDoorRows
import Derived.ProofKit
import Derived.LaidMore
import Derived.OpenShut
import Derived.Stop.Joined
import Derived.JoinedOf
import Derived.KernelRfl
import Derived.Test.YtalmddmghdinkaaGreatDoorZB
set_option linter.all false
set_option linter.deprecated false
noncomputable section
set_option maxHeartbeats 8000000
set_option maxRecDepth 100000
namespace Go.ah.X
open Go Go.ah Go.Proofs.dI
section
def vt(L:List b2)(z:Nat)(v:V)(l:Nat)(cs:List V):Prop:=dz z v l cs∨ ∃b e bw,v=.bx b 0 l l z∧b2.gl b cs e bw∈L∧cs.length=l*z
def zF(L:List b2)(p:ev)(d e:V):Prop:= ∃cs,vt L 1 d p.parts.length (fp p.parts)∧vt L 16 e p.boxes.length cs∧hr p.boxes cs
section
variable {ao s bc:S}{L cu uc pS:List b2}{Q:ax->Prop}{z l:Nat}{v:V}{cs:List V}
theorem vt.mono(h:vt L z v l cs)(ae:∀x,x∈L->x∈cu):vt cu z v l cs:=h.imp id λ⟨b,e,bw,J,U,aj⟩=>⟨b,e,bw,J,ae _ U,aj⟩
theorem zF.mono{p:ev}{d e:V}(h:zF L p d e)(ae:∀x,x∈L->x∈cu):zF cu p d e:=let ⟨cs,J,U,aj⟩:=h;⟨cs,J.mono ae,U.mono ae,aj⟩
theorem vt.gl(h:vt L z v l cs)(hm:aX ao s L)(av:cs.all atom=true):∃v',pQ (X.aN s) v v' []∧dz z v' l cs:=by
 rcases h with h|⟨b,e,bw,rfl,h,Z⟩
 exact ⟨v,.at _ h.atom,h⟩;have au:=(hm.ok _ h).2.2;exact ⟨_,.bx b 0 l l z cs cs e bw false au (cg _) D (by rw[<-Z];simp) av,.mk _ _ Z⟩
theorem zF.gl{p:ev}{d e:V}{a b c:Int}(h:zF L p d e)(hm:aX ao s L)(av:a=p.host)(Y:b=p.c8)(aa:c=p.dH):∃a8,gU p a8∧m0 (X.aN s) (.agg [.int .i64 a,.int .i64 b,.int .i64 c,d,e]) a8 []:=by
 subst av Y aa;obtain ⟨cs,J,U,aj⟩:=h;obtain ⟨bK,aB,dR⟩:=J.gl hm (lR _ _);obtain ⟨aZ,aT,dF⟩:=U.gl hm aj.atoms.1;exact ⟨_,⟨bK,aZ,cs,rfl,dR,dF,aj⟩,.agg _ _ _ (.cons _ _ [] _ _ [] (.at _ rfl) (.cons _ _ [] _ _ [] (.at _ rfl) (.cons _ _ [] _ _ [] (.at _ rfl) (.cons _ _ [] _ _ [] aB (.cons _ _ [] _ _ [] aT .nil)))))⟩
theorem zZ{K:V->S->ax}{aP st:Bool}{f:Nat}{args args':List V}{P:V->Prop}(h:aX ao s L)(aM:gz (X.aN s) args args' [] (X.aN s))(aa:cI f args' P)(H:∀v,P v->aV Q (K v s))(hk:dT f=false:=by rfl):aV Q (bZ (cJ a9 aP st (.fn f [] []) args s) K):=by
 obtain ⟨v,ad,e⟩:=aa.1 (X.aN s) rfl h.g;have key:cJ a9 aP st (.fn f [] []) args s=some (v,s):=by
  have hw:=h.loc.ag;unfold cJ;rw[aM.bad];simp only[hp,hd];have E:kG dT f args { s with ag:=s.n } =(args',[],X.aN s):=(s8 hk _ _).trans aM.run;rw[E];simp only[];rw[e];have ai:qI aP st [] (Nat.ble s.n (X.aN s).ag)=true:=by
   have:Nat.ble s.n (X.aN s).ag=true:=by rw[eu];exact cg _
   rw[this];cases aP<;>cases st<;>rfl
  simp only[ai,least];simp only[X.aN];rw[ny hw]
 rw[key,js];exact H v ad
theorem YC{K:V->S->ct->ax}{f:Nat}{args args':List V}{P:V->Prop}(h:aX ao s L)(aM:gz (X.aN s) args args' [] (X.aN s))(aa:cI f args' P)(H:∀v,P v->aV Q (K v s (eM none s.n s.n [])))(hk:dT f=false:=by rfl):aV Q (dp (et a9 (.fn f [] []) args s) K):=by
 obtain ⟨v,ad,e⟩:=aa.1 (X.aN s) rfl h.g;have key:et a9 (.fn f [] []) args s=some (v,s,eM none s.n s.n []):=by
  have hw:=h.loc.ag;unfold et;rw[aM.bad];simp only[hp,hd];have E:kG dT f args { s with ag:=s.n } =(args',[],X.aN s):=(s8 hk _ _).trans aM.run;rw[E];simp only[];rw[e];have:Nat.blt s.n s.n=false:=by cases h:Nat.blt s.n s.n with
   |false=>rfl
   |true=>rw[gy]at h;omega
  simp only[X.aN,this,least];rw[ny hw];rfl
 rw[key,pX];exact H v ad
theorem yx{a a8:V}{q:List V}(h:m0 (X.aN s) a a8 [])(a7:q.all ep=true):gz (X.aN s) (a::q) (a8::q) [] (X.aN s):=.cons _ _ _ _ [] _ _ [] h (gz.q8 _ a7)
theorem akj{a a8 b a4:V}(h:m0 (X.aN s) a a8 [])(h':m0 (X.aN s) b a4 []):gz (X.aN s) [a,b] [a8,a4] [] (X.aN s):=.cons _ _ _ _ [] _ _ [] h (.cons _ _ _ _ [] _ _ [] h' (.nil _))
theorem LU:∀(bs:List Nat) (s:S) {b e:Nat} {cs:List V} {bw own:Bool},s.h.get b=some (.cells cs e bw own)->b∈bs∨own=false->(mark bs s).h.get b=some (.cells cs e bw false)
 |[],s,b,e,cs,bw,own,h,Y=>by
  rcases Y with Y|rfl
  cases Y;exact h
 |c::r,s,b,e,cs,bw,own,h,Y=>by
  unfold mark;by_cases n7:c=b;subst n7;rw[h];exact LU r _ (own:=false) (aJ.jV _ _ _) (.inr rfl);have ft:b∈r∨own=false:=Y.imp (λh=>(hc.1 h).resolve_left λe=>n7 e.symm) id;split;exact LU r _ (own:=own) (by show (aJ.set _ _ _).get b=_;rw[aJ.hj _ _ D];exact h) ft;exact LU r s h ft
theorem cl.hT{e:Nat}(h:cl ao s e z v l cs){bs:List Nat}(Y:∀b,b∈b4 v->b∈bs)(a5:bc.n=s.n)(hm:∀b,bc.h.get b=(mark bs s).h.get b):∃F:List b2,(∀x,x∈F->x.ok ao bc)∧oE F∧(∀x,x∈F-> ∀b,b∈x.hf->b∈b4 v)∧vt F z v l cs:=by
 cases h with
 |nil=>exact ⟨[],(λ_ h=>by cases h),trivial,(λ_ h=>by cases h),.inl .nil⟩
 |cc b l cs bw h Z=>
  refine ⟨[.gl b cs e bw],λx hx=>?_,⟨λ_ h=>(by cases h),trivial⟩,λx hx c aa=>?_,.inr ⟨b,e,bw,rfl,.head _,Z⟩⟩;rw[iu.1 hx];have:=LU bs s h.get (.inl (Y b (by simp[b4])));exact ⟨h.lo,by rw[a5];exact h.hi,(hm b).trans this⟩;rw[iu.1 hx]at aa;simpa [b2.hf,b4] using aa
theorem akw{K:V->S->ax}{aP:Bool}{f aC ba bk cn:Nat}{a b c:Int}{eg bv:V}{cy cm q:List V}{P:V->Prop}(h:aX ao s L)(de:ji L (.ca eg aC 1 bk cy) uc)(ej:ji uc (.ca bv ba 16 cn cm) pS)(b1:cy.all atom=true)(cq:cm.all atom=true)(a7:q.all ep=true)
  (aa:∀dA a4,dz 1 dA bk cy->dz 16 a4 cn cm->cI f (.agg [.int .i64 a,.int .i64 b,.int .i64 c,dA,a4]::q) P)
  (H:∀v s' F,P v->aX ao s' (pS++F)->vt F 1 eg bk cy->vt F 16 bv cn cm->aV Q (K v s')) (hk:dT f=false:=by rfl):aV Q (bZ (cJ a9 aP false (.fn f [] []) (.agg [.int .i64 a,.int .i64 b,.int .i64 c,eg,bv]::q) s) K):=by
 have av:=h.aN;have dm:cl ao (X.aN s) aC 1 eg bk cy:=av.ok _ de.mem;have fg:cl ao (X.aN s) ba 16 bv cn cm:=av.ok _ (de.sub.subset ej.mem);obtain ⟨dA,bb,aB,dR,rfl⟩:=dm.gl b1;obtain ⟨a4,bU,aT,dF,rfl⟩:=fg.gl cq;have gW:m0 (X.aN s) (.agg [.int .i64 a,.int .i64 b,.int .i64 c,eg,bv]) (.agg [.int .i64 a,.int .i64 b,.int .i64 c,dA,a4]) (b4 eg++(b4 bv++ [])):=.agg _ _ _ (.cons _ _ [] _ _ _ (.at _ rfl) (.cons _ _ [] _ _ _ (.at _ rfl) (.cons _ _ [] _ _ _ (.at _ rfl) (.cons _ _ _ _ _ _ aB (.cons _ _ _ _ _ _ aT .nil)))));have fO:=gz.cons _ _ _ _ _ _ _ [] gW (gz.q8 (mark (b4 eg++(b4 bv++ [])) (X.aN s)) a7);simp only[hd]at fO;generalize mm:mark (b4 eg++b4 bv) (X.aN s)=bc at fO;have Y:∀b,b∈b4 eg++b4 bv->ao.n<=b:=λb Y=>(mB.1 Y).elim (λh=>(dm.lo h).1) λh=>(fg.lo h).1;have gg:bc.n=s.n:=fO.n.1;have ml:bc.ag=s.n:=fO.n.2;have hw:bc.ag=bc.n:=by rw[gg,ml]
 obtain ⟨v,ad,ajv⟩:=(aa dA a4 dR dF).1 bc hw (fO.h h Y);have aR:=h.loc.n;have J:=h.loc.eK;have U:=h.loc.ag;have key:cJ a9 aP false (.fn f [] []) (.agg [.int .i64 a,.int .i64 b,.int .i64 c,eg,bv]::q) s=some (v, { bc with ag:=least (b4 eg++b4 bv) (min s.ag bc.ag) }):=by
  unfold cJ;rw[fO.bad];simp only[hp,hd];have E:kG dT f (.agg [.int .i64 a,.int .i64 b,.int .i64 c,eg,bv]::q) { s with ag:=s.n } =(.agg [.int .i64 a,.int .i64 b,.int .i64 c,dA,a4]::q,b4 eg++b4 bv,bc):=(s8 hk _ _).trans fO.run;rw[E];simp only[];rw[ajv];have ai:qI aP false (b4 eg++b4 bv) (Nat.ble s.n bc.ag)=true:=by
   have:Nat.ble s.n bc.ag=true:=by rw[eu,ml];exact cg _
   rw[this];cases aP<;>rfl
  simp only[ai]
 rw[key,js];have Z:Loc ao { bc with ag:=least (b4 eg++b4 bv) (min s.ag bc.ag) } :=⟨by simp only[gg];exact aR,tF Y D,gb u1 (by simp only[gg];omega)⟩;have KX:fX s { bc with ag:=least (b4 eg++b4 bv) (min s.ag bc.ag) } (b4 eg++b4 bv):=⟨by simp only[gg];omega,λc _ aa=>fO.out aa⟩;generalize yZ:({ bc with ag:=least (b4 eg++b4 bv) (min s.ag bc.ag) } :S)=aK at*;have cd:aK.n=(X.aN s).n:=by rw[<-yZ];exact gg
 have ff:∀b,aK.h.get b=(mark (b4 eg++b4 bv) (X.aN s)).h.get b:=λb=>by rw[<-yZ,mm]
 obtain ⟨agQ,cL,cS,ds,gw⟩:=dm.hT (bs:=b4 eg++b4 bv) (λb Y=>Hm _ Y) cd ff;obtain ⟨agR,fQ,bM,jB,hL⟩:=fg.hT (bs:=b4 eg++b4 bv) (λb Y=>Hl _ Y) cd ff;have d1:∀w,w∈pS-> ∀b,b∈w.hf->b∉b4 eg++b4 bv:=λw hw b Y hx=>(mB.1 hx).elim (de.ju h.ju w (ej.sub.subset hw) b Y) (ej.ju (h.ju.sub de.sub) w hw b Y);refine H v aK (agQ++agR) ad ⟨Z,λw hw=>?_,((h.ju.sub de.sub).sub ej.sub).app (cS.app bM λx hx y aI b Y ft=>?_) λx hx y aI b Y ft=>?_,h.L4 KX Y,h.n3⟩ (gw.mono λ_ h=>Hm _ h) (hL.mono λ_ h=>Hl _ h);rcases mB.1 hw with hw|hw
 exact (h.ok w (de.sub.subset (ej.sub.subset hw))).a1 KX (d1 w hw) Y;exact (mB.1 hw).elim (cL w) (fQ w);exact de.ju h.ju _ ej.mem b (jB y aI b ft) (ds x hx b Y);refine d1 x hx b Y ?_;exact (mB.1 aI).elim (λaI=>Hm _ (ds y aI b ft)) λaI=>Hl _ (jB y aI b ft)
end
theorem ae4:cI 21 [] (·=.bool true):=⟨λs ae au=>⟨_,rfl,aiS (O:=zD) (g:=Gk) rfl (by unfold Gk;rw[if_pos ⟨rfl,au.kH,au.dj,au.dL⟩]) D⟩,rfl⟩
end
section
theorem anT(l:List Int)(x:Int):fp l++ [.int .i64 x]=fp (l++ [x]):=by unfold fp;simp
theorem Tb{N K:Nat}{p:ev}{a:V}{n m:Int}(av:gU p a)(al:p.er N K)(a5:ez n)(hm:ez m)(YT:1000<=N:=by omega)(gE:N<=100000000:=by omega)(YY:1<=K:=by omega)(CD:K<=11:=by omega):cI 8 [a,.int .i64 n,.int .i64 m] (λr=> ∃dA:ev,gU dA r∧dA.er (7*N) (K+1)):=
 oq (B8 av al YT gE YY CD a5 hm) (by rw[gS,av.a2];rfl) λ_ h=>h
theorem pN.at{n:Nat}{b:je}{cs:List V}(h:pN n b (.agg cs)):cs.all atom=true:=h.fh.atoms.1
theorem R7:(∀x:Int,decide (x≠x)=false)∧ ∀b:Bool,decide (b≠b)=false:=⟨λ_=>e3 λh=>h rfl,λ_=>e3 λh=>h rfl⟩
section
variable {ao s:S}{L:List b2}
structure Ek(F:List b2)(lc:List V)(kP:Nat->ev)(uy se:Nat->V):Prop where
 ti:∀i,i<6->(kP i).ti
 aq0:∀i,i<6->zF F (kP i) (uy i) (se i)
 at_:∀i,i<6->(lc.drop (i*5)).take 5=[.int .i64 (kP i).host,.int .i64 (kP i).c8,.int .i64 (kP i).dH,uy i,se i]
theorem Ek.Gj{F:List b2}{hW:Nat}{lc:List V}{kP:Nat->ev}{uy se:Nat->V}(h:Ek F lc kP uy se)(hm:aX ao s L)(u:b2.ca (.bx hW 0 6 6 5) 37 5 6 lc∈L){i:Nat}(hi:i<6):bf 5 s (.ptr hW (i*5))=some (.agg [.int .i64 (kP i).host,.int .i64 (kP i).c8,.int .i64 (kP i).dH,uy i,se i]):=by
 obtain ⟨b,bw,e,Y⟩:=(hm.ca u).qG D;cases e;have Z:=(hm.ca u).cells;rw[kN Y.rd D,h.at_ i hi]
theorem Ek.gl{F:List b2}{lc:List V}{kP:Nat->ev}{uy se:Nat->V}(h:Ek F lc kP uy se)(hm:aX ao s L)(eO:∀x,x∈F->x∈L){i:Nat}(hi:i<6):∃a8,gU (kP i) a8∧m0 (X.aN s) (.agg [.int .i64 (kP i).host,.int .i64 (kP i).c8,.int .i64 (kP i).dH,uy i,se i]) a8 []:=
 ((h.aq0 i hi).mono eO).gl hm rfl rfl rfl
end
theorem gU.v{F:List b2}{p:ev}{a b c:Int}{d e:V}(h:gU p (.agg [.int .i64 a,.int .i64 b,.int .i64 c,d,e])):zF F p d e:=by
 obtain ⟨_,_,cs,e,J,U,aj⟩:=h;cases e;exact ⟨cs,.inl J,.inl U,aj⟩
theorem Xa{ps:List Int}{bs:List hq}(h:∀x,x∈ps->ez x)(Y:∀b,b∈bs->b.er 1000000)(J:ps.length<=8)(U:bs.length<=8):ev.er 1000000 8 ⟨0,0,20,ps,bs⟩:=⟨by dsimp;omega,by dsimp;omega,by dsimp;omega,h,Y,J,U⟩
theorem ajc{p:ev}(h:p.ti){k:Int}(hk:ez k):(rf p k).1.ok:=by
 have aR:ev.ok ⟨0,0,0,[],[]⟩:=⟨by unfold ez;dsimp;omega,by unfold ez;dsimp;omega,by unfold ez;dsimp;omega,(λ_ h=>by cases h),(λ_ h=>by cases h),aS,aS⟩;have aE:=h.ok;unfold rf;split;exact aR;split;exact aR;exact ⟨aE.host,aE.c8,hk,aE.parts,aE.boxes,aE.iA,aE.hW⟩
theorem SS{P:Nat->Prop}(aR:P 0)(J:P 1)(U:P 2)(aj:P 3)(aH:P 4)(bD:P 5):∀i,i<6->P i:=λi hi=>by
 obtain rfl|rfl|rfl|rfl|rfl|rfl:i=0∨i=1∨i=2∨i=3∨i=4∨i=5:=D
 all_goals assumption
theorem aX.c7{ao s:S}{L:List b2}{b t:Nat}{fC b1 cq cV:V}(h:aX ao s L)(u:b2.cM b [fC,b1,cq,cV] t∈L):bf 4 s (.ptr b 0)=some (.agg [fC,b1,cq,cV]):=
 kN (show dN ao s b _ t false from h.ok _ u).rd (cg 4)
theorem aX.adP{ao s:S}{L:List b2}{tQ:Nat}{x y:Int}(h:aX ao s L)(u:b2.ca (.bx tQ 0 2 2 1) 3 1 2 [.int .i64 x,.int .i64 y]∈L){j:Nat}(aG:j<2):cZ s (.ptr tQ j)=some (.int .i64 (if j=0 then x else y)):=by
 obtain ⟨b,bw,e,Y⟩:=(h.ca u).qG D;cases e;rw[nk Y.rd aG];obtain rfl|rfl:j=0∨j=1:=D
 all_goals rfl
attribute [local irreducible] jj bZ dp aF gZ cJ et c6 e9 eT aW aw cT bB e5 fD ef gv fl eV fe aV
theorem ae6{v0 v1 v2 hz:V}{Gi bk cn dM:List Int}{so nF:Int}(aR:bV .i64 v0 Gi)(J:bV .i64 v1 bk)(U:bV .i64 v2 cn)(aj:bV .i64 hz dM)(sG:∀x,x∈Gi->ez x)(fQ:∀x,x∈bk->ez x)(bM:∀x,x∈cn->ez x)(jB:∀x,x∈dM->ez x)(dE:ez so)(Y:ez nF):
  cI 3 [v0,v1,v2,hz,.int .i64 so,.int .i64 nF] (·=.bool true):=⟨λs ae au=>
 (agh (cv aS)).ee 1001 (by
  show aV _ (NT a9 1001 v0 v1 v2 hz (.int .i64 so) (.int .i64 nF) s);unfold NT;simp only[cw];have h:=aX.nil ae au;have r:=h.bX;generalize eO:1001=F;have eo:=afh aR sG;have jy:cI 7 [v2] (λr=> ∃p:ev,gU p r∧p.eQ∧p.formed=true):=oq (B6 U bM) (fJ U.a2) λ_ h=>h;have aaX:cI 7 [hz] (λr=> ∃p:ev,gU p r∧p.eQ∧p.formed=true):=oq (B6 aj jB) (fJ aj.a2) λ_ h=>h;have as5:g3.bytes=8:=rfl;have as6:qR.bytes=256:=rfl;refine g7 h eo (λv ⟨m,hm,aE⟩=>?_);have QI:=hm.a2;have g2:=afk hm aE J fQ;have FL:=hm;obtain ⟨wh,mp,wi,mk,rfl,_,Z7,_,_⟩:=FL;have gF:=Z7.len;have eQ:([wh,mp,wi,mk]:List V).all bL=true:=dB QI;have kh:=aE.kh;repeat' first
   |refine iG ?_
   |refine cf h λ_ _ h r=>?_
   |refine c9 h cj (λ_ h r=>?_) (hx:=eQ)
   |refine g7 h g2 (λv ⟨t,aO,Lk⟩=>?_);have Q9:=aO.A;have anj:=aO;obtain ⟨wD,G3,sL,e,_⟩:=anj;subst e;have A2:([.int .i64 t.tick,wD,G3,sL]:List V).all bL=true:=dB Q9
   |refine c9 h cj (λ_ h r=>?_) (hx:=A2)
   |refine g7 h jy (λv ⟨p,al,Sn,_⟩=>?_);have La:=al;obtain ⟨mw,acu,Si,e,cL,cS,_⟩:=La;subst e;have acF:=λF=>al.v (F:=F);have sp:=dB (u9 (h:=p.host) (f:=p.c8) (t:=p.dH) cL cS);have oY:=Tb al (Sn.er.mono (M:=1000000) (L:=8) D D) dE Y
   |refine c9 h cj (λ_ h r=>?_) (hx:=sp)
   |refine g7 h aaX (λv ⟨q,a7,acM,_⟩=>?_);have xz:=a7;obtain ⟨j3,acL,avF,e,cL,cS,_⟩:=xz;subst e;have Dv:=λF=>a7.v (F:=F);have A1:=dB (u9 (h:=q.host) (f:=q.c8) (t:=q.dH) cL cS)
   |refine c9 h cj (λ_ h r=>?_) (hx:=A1)
   |refine g7 h oY (λv ⟨r',E,SF⟩=>?_);have tt:=E;obtain ⟨acX,SG,avJ,e,cL,cS,_⟩:=tt;subst e;have Mo:=λF=>E.v (F:=F);have adF:=dB (u9 (h:=r'.host) (f:=r'.c8) (t:=r'.dH) cL cS)
   |refine c9 h cj (λ_ h r=>?_) (hx:=adF)
   |refine c9 h cj (λ_ h r=>?_)
   |refine hO (λk vs u=> ∃(i ck EC ED B1 hg bs:Nat) (eg bv:V) (ps:List Int) (Ey:List V) (uv:List hq),vs=[.int .i64 i,.ptr ck 0,.ptr EC 0,.ptr ED 0,.ptr B1 0,.int .i64 so,.int .i64 nF,.ptr hg 0,.ptr bs 0]∧
     aX s u [.cM B1 [.int .i64 0,.int .i64 0,.int .i64 20,eg,bv] 37,.ca eg 3 1 ps.length (fp ps),.ca bv 49 16 uv.length Ey,.cM ED [.int .i64 r'.host,.int .i64 r'.c8,.int .i64 r'.dH,acX,SG] 37,.cM EC [.int .i64 q.host,.int .i64 q.c8,.int .i64 q.dH,j3,acL] 37,.cM ck [.int .i64 p.host,.int .i64 p.c8,.int .i64 p.dH,mw,acu] 37,.cM bs [.int .i64 t.tick,wD,G3,sL] 33,.cM hg [wh,mp,wi,mk] 28]∧
     hr uv Ey∧(∀b,b∈uv->b.er 1000000)∧ps.length=uv.length∧ps.length<=i∧(∀x,x∈ps->ez x)∧i+k=m.parts.length) m.parts.length ⟨0,_,_,_,_,_,_,.af,.af,[],[],[],rfl,(((h.xU 49 16).xU 3 1).mr (x:=.cM _ [.int .i64 0,.int .i64 0,.int .i64 20,.af,.af] 37) hG),.nil,(λ_ h=>by cases h),rfl,cg _,(λ_ h=>by cases h),D⟩ D ?_
  clear h r;rintro a3 k _ u ⟨i,ck,EC,ED,B1,hg,bs,eg,bv,ps,Ey,uv,rfl,h,mg,qB,el,ajD,oW,na⟩ cR;have r:=h.bX;by_cases hi:i<m.parts.length
  ·have bC:=ar @gF @bT;repeat' first
    |refine cO ?_
    |refine gr h (Ni Y D D) λa ⟨fC,b1⟩=>?_
   generalize (a.fdiv (2 ^ min (tU .u64 (i:Int)).toNat (IntKind.bits .i64))).tmod 2=c;by_cases j0:c=1
   ·have zb:=TP hm aO aE Lk (mA hi);have sg:=(ar1 hm aO aE (mA hi)).er;have bC:=ar @gF @bT;repeat' first
     |refine cO ?_
     |refine oT h (l:=[_]) rfl rfl λ_ _ h r=>?_
     |refine vN h hG (h.bx (.head _)) rfl rfl aS (by rw[as5];omega) λv1 _ h r=>?_
     |refine p1 h cj (h.c0 (.head _)) (λ_ h r=>?_)
     |refine lq h zb λv P5=>?_;obtain ⟨b1,cq,cV,dn,bb,bU,cP,c7,cy,cm,dc,dw,d1,d2,d3,d4,e,dj,dL,eH,e0⟩:=id P5;subst e
     |refine xi h (l:=[_,_,_,_,_,_,_,_,_,_,_,_,_,_,_,_]) rfl rfl λ_ _ _ h r=>?_
     |refine yy h hG (h.bx (.head _)) (dB P5.at) rfl aS (by rw[as6];omega) λv2 _ _ _ _ h r=>?_
     |refine Fi h cj (h.c0 (.head _)) (λ_ _ h r=>?_)
     |refine Cy rfl (by repeat first|exact trivial|apply kC.eY|refine kC.oO (.inr ⟨_,rfl,λ_ _ h=>(by cases h)⟩) (by decide+kernel) ?_) ?_
     |exact cR (k - 1) _ _ D ⟨i+1,ck,EC,ED,B1,hg,bs,v1,v2,ps++ [(i:Int)],_,uv++ [OJ _],rfl,(by rw[<-anT,hZ,hZ];exact ((h.mr (x:=.ca v1 3 1 _ _) hG).mr (x:=.cM B1 _ _) hG).sub jq),mg.app (.one P5.fh),zH qB sg,by simp[el],by simp<;>omega,zH oW (by unfold ez;omega),D⟩
   ·have bC:=ar @gF @bT;repeat' first
     |refine cO ?_
     |exact cR (k - 1) _ _ D ⟨i+1,ck,EC,ED,B1,hg,bs,eg,bv,ps,Ey,uv,rfl,h,mg,qB,el,D,oW,D⟩
  ·have au:i=m.parts.length:=D;subst au;have abj:=Tb E SF Y dE;have aa6:∀dA a4,dz 1 dA ps.length (fp ps)->dz 16 a4 uv.length Ey->cI 8 (.agg [.int .i64 0,.int .i64 0,.int .i64 20,dA,a4]:: [.int .i64 so,.int .i64 nF]) (λr=> ∃dA:ev,gU dA r∧dA.er (7*1000000) (8+1)):=λdA a4 dj dL=>
    Tb (p:=⟨0,0,20,ps,uv⟩) ⟨_,_,_,rfl,dj,dL,mg⟩ (Xa oW qB D D) dE Y
   have acy:=Sn.ti;have acN:=acM.ti;have ac6:=SF.ti D D;have YO:ev.ti ⟨0,0,20,ps,uv⟩:=(Xa oW qB D D).ti D D;clear eo g2 jy aaX oY cR ajD na;have bC:=ar @gF @bT;repeat' first
    |refine cO ?_
    |refine g7 h abj (λv ⟨fQ,nO,acQ⟩=>?_);obtain ⟨d1,aC,EK,e,cL,cS,_⟩:=id nO;subst e;have s1:=dB (u9 (h:=fQ.host) (f:=fQ.c8) (t:=fQ.dH) cL cS)
    |refine akw h hG hG (lR _ _) mg.atoms.1 rfl aa6 (λv _ Ee ⟨bM,tu,acR⟩ h YR YS=>?_);obtain ⟨d2,ba,JT,e,cL,cS,_⟩:=id tu;subst e;have s2:=dB (u9 (h:=bM.host) (f:=bM.c8) (t:=bM.dH) cL cS)
   simp only[sQ,hp]at h;have r:=h.bX;have bC:=ar @gF @bT;repeat' first
    |refine cO ?_
    |refine oT h (l:=[_,_,_,_,_,_,_,_,_,_,_,_,_,_,_,_,_,_,_,_,_,_,_,_,_,_,_,_,_,_]) rfl rfl λxI _ h r=>?_
    |refine gr h (Ni Y D D) λa ⟨fC,b1⟩=>?_
    |refine oT h (l:=[_,_]) rfl rfl λsM jo h r=>?_
   obtain ⟨hW,_,rfl,_⟩:=(h.ca (v:=xI) eB).qG D;obtain ⟨tQ,_,rfl,_⟩:=(h.ca (v:=sM) eB).qG D;obtain ⟨L,lc,kP,uy,se,h,de,ej,dy,jc,z1,cQ⟩:∃L lc kP uy se,aX s jo L∧b2.ca (.bx hW 0 6 6 5) 37 5 6 lc∈L∧b2.ca (.bx tQ 0 2 2 1) 3 1 2 [.int .i64 a,.int .i64 nF]∈L∧b2.cM hg [wh,mp,wi,mk] 28∈L∧b2.cM bs [.int .i64 t.tick,wD,G3,sL] 33∈L∧(∀x,x∈Ee->x∈L)∧Ek Ee lc kP uy se:=
    ⟨_,_,λi=> [p,q,r',fQ,⟨0,0,20,ps,uv⟩,bM].getD i p,λi=> [mw,j3,acX,d1,eg,d2].getD i .bad,λi=> [acu,acL,SG,aC,bv,ba].getD i .bad,h,eB,eB,eB,eB,λx hx=>.tail _ (.tail _ (.tail _ (.tail _ (.tail _ (.tail _ (.tail _ (.tail _ hx))))))),
     SS acy acN ac6 (acQ.ti D D) YO (acR.ti D D),SS (acF _) (Dv _) (Mo _) nO.v ⟨_,YR,YS,mg⟩ tu.v,SS rfl rfl rfl rfl rfl rfl⟩
   have amT:([.agg [wh,mp,wi,mk],.agg [.int .i64 t.tick,wD,G3,sL]]:List V).all ep=true:=by
    rw[gS,gS,show ep (.agg [wh,mp,wi,mk])=true from QI,show ep (.agg [.int .i64 t.tick,wD,G3,sL])=true from Q9];rfl
   have C7:=λ{p:ev} {a:V} (av:gU p a) (al:p.ti)=>aex hm aO aE Lk av al;have LB:=λ{p:ev} {a:V} (av:gU p a) (al:p.ti)=>aeE hm aO aE Lk av al;have C8:=λ{p:ev} {a:V} (av:gU p a) (al:p.ti)=>(oq (aia av (by have:=al.hW;omega)) (fJ av.a2) λ_ h=>h:cI 12 [a] (gU p));have Gg:=λ{p:ev} {a:V} (av:gU p a) (al:p.ti)=>(pC (OQ av (by have:=al.iA;omega) (by have:=al.hW;omega)) (fJ av.a2) ⟨_,rfl,rfl⟩:cI 18 [a] (lj (·=p.formed)));have Dw:ez a:=by unfold ez;omega
   clear nO tu acy acN ac6 YO acQ acR YR YS s1 s2 SF abj aa6 acF Dv Mo oW qB el mg al a7 E Sn acM hm Lk aO Z7 eQ A2 sp A1 adF gF QI Q9;have r:=h.bX;have nb:fP (.bx hW 0 6 6 5)=some (.int .i64 6):=rfl;have bC:= @nb;repeat' first
    |refine cO ?_
    |refine hO (λk vs u=> ∃i:Nat,vs=[.int .i64 i,.ptr hg 0,.ptr bs 0,.bx tQ 0 2 2 1,.bx hW 0 6 6 5]∧aX s u L∧i+k=6) 6 ⟨0,rfl,h,rfl⟩ D ?_
   clear h r;rintro a3 k _ u ⟨i,rfl,h,na⟩ cR;have r:=h.bX;by_cases hi:i<6
   case neg=>
    have bC:= @nb;repeat' first
     |refine cO ?_
     |refine g7 h ae4 λv e=>?_;subst e
     |exact dh h ae rfl rfl
   have abd:=h.c7 dy;have ni:=h.c7 jc;have hl:=λ{i:Nat} (hi:i<6)=>px .i64 (b:=hW) (o:=0) (l:=6) (c:=6) (mW:=5) (z:=5) (i:=(i:Int)) D D;simp only[gD,dZ]at hl;have v8:=hl hi;have yR:=cQ.Gj h de hi;obtain ⟨Jr,nL,uJ⟩:=cQ.gl h z1 hi;have ti:=cQ.ti i hi;have bC:=ar @nb (ar @abd (ar @ni (ar @v8 (ar @yR (ar @Gw @R7.2)))));repeat' first
    |refine cO ?_
    |refine zZ h (yx uJ rfl) (C8 nL ti) λv ad=>?_
    |refine iI h (C7 ad ti) λb e=>?_;subst e
    |refine zZ h ((yx uJ rfl).pre amT) (LB nL ti) λv ⟨b,aC,ba⟩=>?_;subst aC ba
    |refine hO (λk vs u=> ∃j:Nat,vs=[.int .i64 j,.int .i64 i,.ptr hg 0,.ptr bs 0,.bx tQ 0 2 2 1,.bx hW 0 6 6 5]∧aX s u L∧j+k=2) 2 ⟨0,rfl,h,rfl⟩ D ?_
   clear h r abd ni yR uJ nL Jr C7 LB;rintro Lu aT _ w ⟨j,rfl,h,mN⟩ Ai;have r:=h.bX;by_cases aG:j<2
   ·have yR:=cQ.Gj h de hi;obtain ⟨Jr,nL,uJ⟩:=cQ.gl h z1 hi;have F1:=h.adP ej aG;have F9:=px .i64 (b:=tQ) (o:=0) (l:=2) (c:=2) (mW:=1) (z:=1) (i:=(j:Int)) D D;simp only[gD,dZ,ox]at F9;obtain ⟨tR,Ra⟩:∃x,(if j=0 then a else nF)=x:=⟨_,rfl⟩;have rt:ez tR:=by subst Ra;split<;>assumption
    rw[Ra]at F1;have cK:=ajc ti rt;have bC:=ar @v8 (ar @yR (ar @F1 @F9));repeat' first
     |refine cO ?_
     |refine mL h λ_ _ _ h r=>?_
     |refine YC h (yx uJ rfl) (C8 nL ti) λv ad=>?_
     |refine lq h (aeG ad ti) λv ⟨c,e,aa⟩=>?_;subst e;obtain ⟨Cb,ce,aiP,e,cL,cS,ds⟩:=id aa;subst e;have c0:=dB (u9 (h:=(rf (kP i) tR).1.host) (f:=(rf (kP i) tR).1.c8) (t:=(rf (kP i) tR).1.dH) cL cS)
     |refine fN h cj (λfH _ h r=>?_) (hx:=c0)
    have yR:=cQ.Gj h (.tail _ de) hi;obtain ⟨Jr,nL,uJ⟩:=cQ.gl h (λx hx=>.tail _ (z1 x hx)) hi;have F1:=h.adP (.tail _ ej) aG;rw[Ra]at F1;have bC:=ar @v8 (ar @yR (ar @F1 (ar @F9 (ar @R7.1 (ar @nv (ar @j6 @bT))))));repeat' first
     |refine cO ?_
     |refine mL h λ_ _ _ h r=>?_
     |refine YC h (yx uJ rfl) (aeL nL ti) λv ⟨c,e,lM⟩=>?_;subst e;obtain ⟨Cb,ce,aiP,e,cL,cS,ds⟩:=id lM;subst e;have c0:=dB (u9 (h:=(rf (kP i) tR).1.host) (f:=(rf (kP i) tR).1.c8) (t:=(rf (kP i) tR).1.dH) cL cS)
     |refine fN h cj (λfH _ h r=>?_) (hx:=c0)
     |refine g7 h (oq (aii aa cK.hW) (fJ aa.a2) λ_ h=>h) λv ad=>?_
     |refine iI h (P:=(·=true)) (pC (aif ad lM cK) (df ad.a2 lM.a2) ⟨_,rfl,rfl⟩) λ_ e=>?_;subst e
     |exact Ai (aT - 1) _ _ D ⟨j+1,rfl,h.sub jq,D⟩
   ·clear Ai;have r:=h.bX;have bC:= @nb;repeat' first
     |refine cO ?_
     |refine hO (λk vs u=> ∃j:Nat,vs=[.int .i64 j,.int .i64 i,.ptr hg 0,.ptr bs 0,.bx tQ 0 2 2 1,.bx hW 0 6 6 5]∧aX s u L∧j+k=6) 6 ⟨0,rfl,h,rfl⟩ D ?_
    clear h r;rintro Lu aT _ w ⟨j,rfl,h,mN⟩ Ai;have r:=h.bX;by_cases aG:j<6
    case neg=>
     have bC:=ar @nb @bT;repeat' first
      |refine cO ?_
      |exact cR (k - 1) _ _ D ⟨i+1,rfl,h,D⟩
    have F9:=hl aG;have yR:=cQ.Gj h de hi;have amy:=cQ.Gj h de aG;obtain ⟨Jr,nL,uJ⟩:=cQ.gl h z1 hi;obtain ⟨atk,PZ,Qo⟩:=cQ.gl h z1 aG;have tR:=cQ.ti j aG;have aaU:=Gg PZ tR;have Gg:=Gg nL ti;obtain ⟨bi,xp⟩:∃b,(kP i).formed=b:=⟨_,rfl⟩;obtain ⟨ahS,P3⟩:∃b,(kP j).formed=b:=⟨_,rfl⟩;rw[xp]at Gg;rw[P3]at aaU;cases bi<;>cases ahS;all_goals
     have bC:=ar @nb (ar @v8 (ar @F9 (ar @yR (ar @amy (ar @bT @R7.1)))));repeat' first
      |refine cO ?_
      |refine zZ h (yx uJ rfl) Gg λv ⟨b,aC,ba⟩=>?_;subst aC;subst ba
      |refine zZ h (yx Qo rfl) aaU λv ⟨b,aC,ba⟩=>?_;subst aC;subst ba
      |refine zZ h (yx uJ rfl) (C8 nL ti) λv ad=>?_
      |refine zZ h (yx Qo rfl) (C8 PZ tR) λv fx=>?_
      |refine gr h (aeY ad fx ti tR) λn e=>?_;subst e
      |refine zZ h (akj uJ Qo) (ae2 nL PZ ti tR) λv ⟨n,aC,ba⟩=>?_;subst aC;subst ba
      |exact Ai (aT - 1) _ _ D ⟨j+1,rfl,h,D⟩) D,by
 show (a2 v0 && (a2 v1 && (a2 v2 && (a2 hz && (true && (true && true))))))=true;rw[aR.a2,J.a2,U.a2,aj.a2];rfl⟩
end
end Go.ah.X
namespace Go.ah.X
open Go Go.ah Go.Proofs Go.Proofs.dI
def iO:S:= { h:=((aJ.leaf.set 0 kH).set 1 dj).set 2 dL,n:=3,ag:=3 }
def Lx(a:ax):Bool:=
 match a with
 |some (.bool true,s)=>Nat.ble 3 s.ag
 |_=>false
theorem aoY:Lx (OW vc 300 60 21 [] iO)=true:=aA
theorem anV{a:ax}(h:Lx a=true):∃s,a=some (.bool true,s)∧3<=s.ag:=by
 unfold Lx at h;split at h;exact ⟨_,rfl,Br h⟩;cases h
theorem aoZ{a:ax}(h:Lx a=true)(E:∀r,a=some r->iO.ag<=iO.n->n0 Dj funcs types 21 [] iO λv s'=>(v,s')=r∧iO.n<=s'.n):∃n bc,go dT Dj funcs types n (.call 21 [] iO)=some (.val (.bool true) bc)∧iO.n<=bc.ag:=by
 obtain ⟨s,J,aH⟩:=anV h;obtain ⟨n,r,U,aj⟩:=E _ J (cg _);split at aj;obtain ⟨aj,_⟩:=aj;cases aj;exact ⟨n,_,U,aH⟩;exact aj.elim
theorem ao0:∃n bc,go dT Dj funcs types n (.call 21 [] iO)=some (.val (.bool true) bc)∧iO.n<=bc.ag:=
 aoZ aoY λr e hw=>XE (O:=Dj) (pc.ajE (ase λ_=>rfl)) 300 60 21 [] iO r e hw
def flat:V->Bool
 |.fn _ [] []=>true
 |.int _ _=>true
 |.bool _=>true
 |_=>false
def Cm:V->Bool
 |.agg cs=>cs.all flat
 |v=>flat v
theorem R.flat{ak:Nat->Prop}{h:aJ hs}{κ hY:b8}{v:V}{w:Value}(E:R ak h κ v w)(aM:flat v=true):R ak h hY v w:=by
 cases E<;>simp only[X.flat]at aM<;>try (cases aM;done)
 exact .bool _ _;exact .int _ _ _;rename_i f a b a8 a4 av Y;cases a with
 |cons _ _=>cases aM
 |nil=>cases b with
  |cons _ _=>cases aM
  |nil=>cases av;cases Y;exact .fn _ _ _ _ _ _ (.nil _) (.nil _)
theorem c2.flat{ak:Nat->Prop}{h:aJ hs}{κ hY:b8} :∀ {l:List V} {l':List Value},c2 ak h κ l l'->l.all X.flat=true->c2 ak h hY l l'
 |[],_,E,_=>by cases E;exact .nil _
 |v::l,_,E,aM=>by
  cases E with
  |cons _ _ w _ l' ad Z=>
   simp only[gS,dU]at aM;exact .cons _ _ _ _ _ (ad.flat aM.1) (c2.flat Z aM.2)
theorem R.Cm{ak:Nat->Prop}{h:aJ hs}{κ hY:b8}{v:V}{w:Value}(E:R ak h κ v w)(aM:Cm v=true):R ak h hY v w:=by
 cases v with
 |agg cs=>cases E with|agg _ _ l' Z=>exact .agg _ _ _ (Z.flat aM)
 |_=>exact E.flat aM
theorem qs.flat{ak:Nat->Prop}{h:aJ hs}{κ hY:b8} :∀ {es:List (V×V)} {iS:List (Value×Value)},qs ak h κ es iS->es.all (λp=>Cm p.1 && Cm p.2)=true->qs ak h hY es iS
 |[],[],_,_=>trivial
 |(_,_)::_,(_,_)::_,⟨a,b,c⟩,aM=>by
  simp only[gS,dU]at aM;exact ⟨a.Cm aM.1.1,b.Cm aM.1.2,qs.flat c aM.2⟩
 |[],_::_,h,_=>h.elim
 |(_,_)::_,[],h,_=>h.elim
theorem Wq(jI:Ef 2 funcs):Ot 2 funcs types zD:=by
 intro f g aM args v s ad κ ak args' s' hw m av pv;have al9:f=21∧g=Gk:=by
  unfold zD at aM;split at aM;cases aM;exact ⟨rfl,rfl⟩;cases aM
 obtain ⟨rfl,rfl⟩:=al9;unfold Gk at ad;split at ad;rename_i aa;obtain ⟨rfl,aR,J,U⟩:=aa;cases ad;cases av;obtain ⟨n,bc,hP,mm⟩:=ao0;have pz:κ 0=some 0:=m.pk 0 D;have aB:κ 1=some 1:=m.pk 1 D;obtain ⟨avB,ph,asR,aqb,rfl,sG,_⟩:=m.obj 0 kH 0 aR pz;obtain ⟨AS,aC,ad8,aqc,rfl,fQ,_⟩:=m.obj 1 dj 1 J aB;obtain ⟨c,aT,acO⟩:∃c,κ 2=some c∧ ∀hY:b8,hY 2=some c->c2 ak s'.h hY [.map 2] ad8:=by
  cases fQ with
  |cons _ _ w _ l' ad Z=>
   cases Z;cases ad with
   |map _ _ c hk=>exact ⟨c,hk,λhY fS=>.cons _ _ _ _ _ (.map _ _ _ fS) (.nil _)⟩
 obtain ⟨apC,ba,ajL,aqd,rfl,bM,_⟩:=m.obj 2 dL c U aT;let wM:b8:=λb=>if b<3 then κ b else none;have C3:∀b c,wM b=some c->b<3∧κ b=some c:=λb c h=>by
  simp only[wM]at h;split at h;exact ⟨by assumption,h⟩;cases h
 have ade:iO.h.get 0=some kH:=by simp[iO,aJ.tc]
 have adf:iO.h.get 1=some dj:=by simp[iO,aJ.tc]
 have adg:iO.h.get 2=some dL:=by simp[iO,aJ.tc]
 have YD:∀b o,b<3->iO.h.get b=some o->s.h.get b=some o∧LQ o=false:=λb o Y aE=>by
  have:b=0∨b=1∨b=2:=D;rcases this with rfl|rfl|rfl
  rw[ade]at aE;cases aE;exact ⟨aR,rfl⟩;rw[adf]at aE;cases aE;exact ⟨J,rfl⟩;rw[adg]at aE;cases aE;exact ⟨U,rfl⟩
 have hQ:dP 2 wM ak iO s':=by
  refine ⟨λb o d Y hk=>?_,λb d hk=>?_,λb a4 d hk fS=>m.inj b a4 d (C3 b d hk).2 (C3 a4 d fS).2,λb o d Y Z hk=>?_,m.vh,⟨cg _,m.ag.2⟩,λg au=>?_,λb cs e bw d Y hk=>?_⟩;obtain ⟨n5,sk⟩:=C3 b d hk;have:b=0∨b=1∨b=2:=D;rcases this with rfl|rfl|rfl
  rw[pz]at sk;cases sk;rw[ade]at Y;cases Y;exact ⟨_,ph,asR,aqb,rfl,sG.flat rfl,λh=>by cases h⟩;rw[aB]at sk;cases sk;rw[adf]at Y;cases Y;exact ⟨_,aC,ad8,aqc,rfl,acO wM (by simp[wM,aT]),λh=>by cases h⟩;rw[aT]at sk;cases sk;rw[adg]at Y;cases Y;exact ⟨_,ba,ajL,aqd,rfl,bM.flat rfl,λh=>by cases h⟩;obtain ⟨n5,sk⟩:=C3 b d hk;exact ⟨n5,(m.lt b d sk).2⟩;obtain ⟨n5,_⟩:=C3 b d hk;rw[(YD b o n5 Y).2]at Z;cases Z;simp only[wM,if_pos (show g<3 by omega)];exact m.pk g au;obtain ⟨n5,sk⟩:=C3 b d hk;exact m.gl b cs e bw d (YD b _ n5 Y).1 sk
 obtain ⟨w,bA,e6,fo,g9,mz,mI,h4⟩:=ao1 jI hP mm (cg _) m hQ (.nil _) pv;cases h4;exact ⟨n,κ,ak,_,bA,e6,fo,g9,.bool _ _⟩;cases ad
end Go.ah.X
#print axioms Go.ah.X.Wq
namespace Go.ah
open Go Go.Proofs Go.Proofs.YtalmddmghdinkaaGreatDoor Go.ChangeShapes Go.WideShapes Go.WideElems Go.RowKit
def hT(n:Nat):Value:=.func (.func n) #[] #[]
theorem aqm{α β:Type}{f:α->β}{x m:List β}(h:x.Perm m):∀ {l:List α},l.map f=x-> ∃l':List α,l'.Perm l∧l'.map f=m:=by
 induction h with
 |nil=>intro l Z;exact ⟨l,.refl _,Z⟩
 |cons b _ a3=>
  intro l Z;cases l with
  |nil=>cases Z
  |cons a l=>
   simp only[jE,x7]at Z;obtain ⟨l',J,U⟩:=a3 Z.2;exact ⟨a::l',J.cons a,by simp[Z.1,U]⟩
 |swap b c aby=>
  intro l Z
  match l,Z with
  |a::a8::l,Z=>
   simp only[jE,x7]at Z;exact ⟨a8::a::l,.swap _ _ _,by simp[Z.1,Z.2.1,Z.2.2]⟩
 |trans _ _ anN Lu=>
  intro l Z;obtain ⟨bk,J,U⟩:=anN Z;obtain ⟨cn,aj,aH⟩:=Lu U;exact ⟨cn,aj.trans J,aH⟩
theorem adA{H:Type} :∀l:List (Lit×DataW H),(l.foldr DataW.insert []).Perm l
 |[]=>.refl _
 |x::l=>(insert_perm x _).trans ((adA l).cons x)
theorem kt:Tryz.prog.globalNamed "gantry/broad.axes" =some 0:=aA
theorem ako:Tryz.prog.globalNamed "gantry/rows.makers" =some 1:=aA
theorem ar8:(Tryz.prog.globals[0]?).map (·.type)=some 204:=aA
theorem asb:(Tryz.prog.globals[1]?).map (·.type)=some 318:=aA
theorem Tg{P:Program}{w:World}{base:Nat}{sp:Nat->Bool}{fuel t kH dj:Nat}{f0 f1:Field}{oo GG e1 cL:Array TypeId}{v0 v1:Bool}{oK bb:UInt8}{sG fQ:List UInt8}{cs:List Value}{q:List MemPlace}
  (aO:P.underlying t=some (.struct #[f0,f1])) (apB:f0.offset=0) (dm:f1.offset=1) (eY:P.cellsOf f0.type=1) (cy:P.cellsOf f1.type=1) (ajb:P.cellsOf t=2)
  (asw:P.underlying f0.type=some (.func oo GG v0)) (de:P.underlying f1.type=some (.func e1 cL v1))
  (ia:((List.range P.funcs.size).filter λf=>(P.funcs[f]?).any (·.name.toUTF8.data.toList == oK::sG))=[kH]) (ed:((List.range P.funcs.size).filter λf=>(P.funcs[f]?).any (·.name.toUTF8.data.toList == bb::fQ))=[dj])
  (h:DataW.trod (funcToken P) P w base sp true fuel t cs=some (.agg [.held (oK::sG),.held (bb::fQ)],q)):cs=[hT kH,hT dj]:=by
 obtain ⟨xs,m,_,hx,Z,_,xv⟩:=DataW.trod_struct aO h;rw[ajb]at Z
 match cs,Z with
 |[a,b],_=>
  have aR:=xv 0 f0 rfl;have J:=xv 1 f1 rfl;rw[apB,eY]at aR;rw[dm,cy]at J;simp only[c4,DataW.agg.injEq]at hx
  match xs,hx,aR,J with
  |[Hd,fA],hx,aR,J=>
   simp only[jE,oz,x7,and_true]at hx;obtain ⟨aeu,DT⟩:=Hd;obtain ⟨gh,gR⟩:=fA;simp only at hx;obtain ⟨⟨rfl,rfl⟩,_⟩:=hx;rw[func_of_trod asw ia (show DataW.trod _ _ _ _ _ _ _ _ [a]=_ from aR),func_of_trod de ed (show DataW.trod _ _ _ _ _ _ _ _ [b]=_ from J)];rfl
noncomputable abbrev nn(b:List UInt8):List Nat:=(List.range Tryz.prog.funcs.size).filter λf=>(Tryz.prog.funcs[f]?).any (·.name.toUTF8.data.toList == b)
theorem apw: [[103,97,110,116,114,121,47,98,114,111,97,100,46,97,120,101,115,36,49],[103,97,110,116,114,121,47,98,114,111,97,100,46,97,120,101,115,36,50],[103,97,110,116,114,121,47,98,114,111,97,100,46,97,120,101,115,36,51],[103,97,110,116,114,121,47,98,114,111,97,100,46,97,120,101,115,36,52],[103,97,110,116,114,121,47,114,111,119,115,46,116,111,117,99,104],[103,97,110,116,114,121,47,114,111,119,115,46,112,97,105,114,115],[103,97,110,116,114,121,47,114,111,119,115,46,112,117,108,108],[103,97,110,116,114,121,47,114,111,119,115,46,114,111,112,101,115],[103,97,110,116,114,121,47,114,111,119,115,46,115,116,111,112],[103,97,110,116,114,121,47,114,111,119,115,46,108,105,109,105,116,115]].map nn=[[449],[450],[451],[452],[453],[228],[454],[455],[456],[457]]:=aA
theorem wm:nn [103,97,110,116,114,121,47,98,114,111,97,100,46,97,120,101,115,36,49]=[449]∧nn [103,97,110,116,114,121,47,98,114,111,97,100,46,97,120,101,115,36,50]=[450]∧nn [103,97,110,116,114,121,47,98,114,111,97,100,46,97,120,101,115,36,51]=[451]∧nn [103,97,110,116,114,121,47,98,114,111,97,100,46,97,120,101,115,36,52]=[452]∧nn [103,97,110,116,114,121,47,114,111,119,115,46,116,111,117,99,104]=[453]∧nn [103,97,110,116,114,121,47,114,111,119,115,46,112,97,105,114,115]=[228]∧nn [103,97,110,116,114,121,47,114,111,119,115,46,112,117,108,108]=[454]∧nn [103,97,110,116,114,121,47,114,111,119,115,46,114,111,112,101,115]=[455]∧nn [103,97,110,116,114,121,47,114,111,119,115,46,115,116,111,112]=[456]∧nn [103,97,110,116,114,121,47,114,111,119,115,46,108,105,109,105,116,115]=[457]:=by
 have h:=apw;simp only[jE,oz,x7,and_true]at h;exact h
theorem apl:nn [103,97,110,116,114,121,47,98,114,111,97,100,46,97,120,101,115,36,49]=[449]:=wm.1
theorem apm:nn [103,97,110,116,114,121,47,98,114,111,97,100,46,97,120,101,115,36,50]=[450]:=wm.2.1
theorem apn:nn [103,97,110,116,114,121,47,98,114,111,97,100,46,97,120,101,115,36,51]=[451]:=wm.2.2.1
theorem apo:nn [103,97,110,116,114,121,47,98,114,111,97,100,46,97,120,101,115,36,52]=[452]:=wm.2.2.2.1
theorem apq:nn [103,97,110,116,114,121,47,114,111,119,115,46,116,111,117,99,104]=[453]:=wm.2.2.2.2.1
theorem apk:nn [103,97,110,116,114,121,47,114,111,119,115,46,112,97,105,114,115]=[228]:=wm.2.2.2.2.2.1
theorem apr:nn [103,97,110,116,114,121,47,114,111,119,115,46,112,117,108,108]=[454]:=wm.2.2.2.2.2.2.1
theorem aps:nn [103,97,110,116,114,121,47,114,111,119,115,46,114,111,112,101,115]=[455]:=wm.2.2.2.2.2.2.2.1
theorem apt:nn [103,97,110,116,114,121,47,114,111,119,115,46,115,116,111,112]=[456]:=wm.2.2.2.2.2.2.2.2.1
theorem apu:nn [103,97,110,116,114,121,47,114,111,119,115,46,108,105,109,105,116,115]=[457]:=wm.2.2.2.2.2.2.2.2.2
abbrev xH:List (String×DataW Unit):=[("gantry/broad.axes",Rows.laid_gantry_broad_axes),("gantry/rows.makers",Rows.laid_gantry_rows_makers)]
theorem EI:Tryz.prog.cellsOf 200=1:=aA
theorem JE:Tryz.prog.cellsOf 201=1:=aA
theorem OR:Tryz.prog.cellsOf 203=2:=aA
theorem ail:Tryz.prog.cellsOf 204=4:=aA
theorem aip:Tryz.prog.cellsOf 315=1:=aA
theorem ain:Tryz.prog.cellsOf 277=1:=aA
theorem aiq:Tryz.prog.cellsOf 317=2:=aA
theorem ab2{W:World}(h:laidMetH Tryz.prog xH W):∀(j:Nat) (v:Value),[hT 449,hT 450,hT 451,hT 452][j]? =some v->W.cell? ⟨0,j,none⟩=some v:=by
 obtain ⟨g,t,cs,fuel,p,au,aO,ad,ai⟩:=h.funcs (j5 ..);obtain rfl:=Option.some.inj (kt.symm.trans au);obtain rfl:=Option.some.inj (ar8.symm.trans aO);have eP:DataW.trod (funcToken Tryz.prog) Tryz.prog W 0 (λ_=>true) true fuel 204 cs.toList=some (.agg [.agg [.held [103,97,110,116,114,121,47,98,114,111,97,100,46,97,120,101,115,36,49],.held [103,97,110,116,114,121,47,98,114,111,97,100,46,97,120,101,115,36,50]],.agg [.held [103,97,110,116,114,121,47,98,114,111,97,100,46,97,120,101,115,36,51],.held [103,97,110,116,114,121,47,98,114,111,97,100,46,97,120,101,115,36,52]]],p):=ai;obtain ⟨xs,m,_,hx,Z,_,xv⟩:=DataW.trod_array Tryz.underlying204 eP;rw[ail]at Z;have aR:=xv 0 aS;have J:=xv 1 aS;rw[OR]at aR J;simp only[c4,DataW.agg.injEq]at hx;have e:cs.toList=[hT 449,hT 450,hT 451,hT 452]:=by
  match cs.toList,Z,aR,J with
  |[a,b,c,d],_,aR,J=>
   match xs,hx,aR,J with
   |[Hd,fA],hx,aR,J=>
    simp only[jE,oz,x7,and_true]at hx;obtain ⟨aeu,DT⟩:=Hd;obtain ⟨gh,gR⟩:=fA;simp only at hx;obtain ⟨⟨rfl,rfl⟩,_⟩:=hx;have ph:=Tg Tryz.underlying203 rfl rfl EI JE OR Tryz.underlying200 Tryz.underlying201 apl apm (show DataW.trod _ _ _ _ _ _ _ _ [a,b]=_ from aR);have aC:=Tg Tryz.underlying203 rfl rfl EI JE OR Tryz.underlying200 Tryz.underlying201 apn apo (show DataW.trod _ _ _ _ _ _ _ _ [c,d]=_ from J);simp only[x7,and_true]at ph aC;rw[ph.1,ph.2,aC.1,aC.2]
 intro j v aG;rw[World.var?_cell au ad j,<-Array.getElem?_toList,e,aG]
theorem aiR{v a b:Value}(h:v.cells.toList=[a,b]):v=.agg #[a,b]:=by
 cases v<;>first|(simp[Value.cells]at h;done)|skip
 rename_i cs;obtain ⟨l⟩:=cs;simp only[Value.cells]at h;rw[h]
theorem Sb{W:World}{n kH dj:Nat}{m:MapEntry}{a:Int}{oK bb:UInt8}{sG fQ:List UInt8}(E:∃y,rd Tryz.prog 3 (elemAt (funcToken Tryz.prog) Tryz.prog W 0 (λ_=>true) true n 317) m=some y)
  (hm:rg Tryz.prog 3 (elemAt (funcToken Tryz.prog) Tryz.prog W 0 (λ_=>true) true n 317) m=(.int .i64 a,.agg [.held (oK::sG),.held (bb::fQ)]))
  (ia:((List.range Tryz.prog.funcs.size).filter λf=>(Tryz.prog.funcs[f]?).any (·.name.toUTF8.data.toList == oK::sG))=[kH]) (ed:((List.range Tryz.prog.funcs.size).filter λf=>(Tryz.prog.funcs[f]?).any (·.name.toUTF8.data.toList == bb::fQ))=[dj]):
  m.key=.int .i64 a∧m.val=.agg #[hT kH,hT dj]:=by
 obtain ⟨y,aI⟩:=E;rw[rg_of aI]at hm;subst hm;have hk:=rd_key aI;obtain ⟨⟨z,ps⟩,aY,e⟩:=rd_val aI;simp only at hk e;subst e;constructor;rw[keyOf_int Tryz.underlying3]at hk;unfold mapKey at hk;rw[Tryz.underlying3]at hk;cases Qy:m.key<;>rw[Qy]at hk<;>simp at hk;obtain ⟨⟨rfl,_⟩,rfl⟩:=hk;rfl;unfold elemAt at aY;split at aY;exact aiR (Tg Tryz.underlying317 rfl rfl aip ain aiq Tryz.underlying315 Tryz.underlying277 ia ed aY);cases aY
theorem apG{W:World}(h:laidMetH Tryz.prog xH W):∃(hg:Nat) (ms:Array MapEntry) (clock:Nat) (l:List MapEntry),W.cell? ⟨1,0,none⟩=some (.map (some hg))∧W.heap[hg]? =some (.map ms clock)∧l.Perm ms.toList∧
  l.map (λe=>(e.key,e.val))=[(.int .i64 0,.agg #[hT 453,hT 228]),(.int .i64 1,.agg #[hT 454,hT 455]),(.int .i64 2,.agg #[hT 456,hT 457])]:=by
 obtain ⟨g,t,cs,fuel,p,au,aO,ad,ai⟩:=h.funcs (lG _ (iu.2 rfl));obtain rfl:=Option.some.inj (ako.symm.trans au);obtain rfl:=Option.some.inj (asb.symm.trans aO);have eP:DataW.trod (funcToken Tryz.prog) Tryz.prog W 0 (λ_=>true) true fuel 318 cs.toList=some (.map [(.int .i64 0,.agg [.held [103,97,110,116,114,121,47,114,111,119,115,46,116,111,117,99,104],.held [103,97,110,116,114,121,47,114,111,119,115,46,112,97,105,114,115]]),(.int .i64 1,.agg [.held [103,97,110,116,114,121,47,114,111,119,115,46,112,117,108,108],.held [103,97,110,116,114,121,47,114,111,119,115,46,114,111,112,101,115]]),(.int .i64 2,.agg [.held [103,97,110,116,114,121,47,114,111,119,115,46,115,116,111,112],.held [103,97,110,116,114,121,47,114,111,119,115,46,108,105,109,105,116,115]])],p):=ai;rcases WideElems.open_map Tryz.underlying318 eP with ⟨_,hx⟩|⟨hg,es,clock,n,rfl,iK,Y,_,F,hx⟩
 simp at hx;simp only[c4,DataW.map.injEq]at hx;have al:=adA (es.toList.map (rg Tryz.prog 3 (elemAt (funcToken Tryz.prog) Tryz.prog W 0 (λ_=>true) true n 317)));rw[<-hx.1]at al;obtain ⟨l,Z,e⟩:=aqm al.symm rfl;refine ⟨hg,es,clock,l,?_,Y,Z,?_⟩;rw[World.var?_cell au ad 0,<-Array.getElem?_toList,iK];rfl;have hlen:l.length=3:=by simpa using congrArg List.length e
 match l,hlen,e with
 |[hQ,dR,dF],_,e=>
  simp only[jE,oz,x7,and_true]at e;have pz:=Sb (F.reads _ (Z.mem_iff.1 (by simp))) e.1 apq apk;have aB:=Sb (F.reads _ (Z.mem_iff.1 (by simp))) e.2.1 apr aps;have aT:=Sb (F.reads _ (Z.mem_iff.1 (by simp))) e.2.2 apt apu;simp only[jE,oz,pz.1,pz.2,aB.1,aB.2,aT.1,aT.2]
end Go.ah
namespace Go.ah.X
open Go Go.ah Go.Proofs Go.Proofs.dI Go.Proofs.YtalmddmghdinkaaGreatDoor Go.ChangeShapes Go.WideShapes
theorem c2.ints{ak:Nat->Prop}{h:aJ hs}{κ:b8}(k:IntKind):∀l:List Int,c2 ak h κ (l.map (V.int k)) (l.map (Value.int k))
 |[]=>.nil _
 |a::l=>.cons _ _ _ _ _ (.int _ _ _) (c2.ints k l)
theorem JL{w:World}{b o:Nat}{v:Value}(h:w.cell? ⟨b,o,none⟩=some v):b<w.heap.size:=by
 unfold World.cell? at h;cases Y:w.heap[b]? with
 |none=>simp[Y]at h
 |some x=>exact (o9.1 Y).1
structure wS(W:World)(k:IntKind)(e:Nat)(v:Value)(l:List Int)(cs:List Value)(i:iP):Prop where
 wf:∀x,x∈l->(Lit.int k x).wf=true
 rel:∀ {T:Types} {ι:bF},Nj T ι W.heap.size cs e false false i W
 val:∀b:Nat,∃u x,bV k x l∧(∀ι:bF,ι b=some i->cE ι u v)∧ ∀(ak:Nat->Prop) (h:aJ hs) (κ:b8),ak b->h.get b=some (.cells cs e false false)->R ak h κ x u
theorem Jw{H:Type}{enc:TypeId×Value->H}{P:Program}{W:World}{base t e:Nat}{k:IntKind}{v:Value}{d:DataW H}{p:List MemPlace}(fE:0<W.heap.size)(aO:P.underlying t=some (.slice e))(he:P.underlying e=some (.int k))(aa:P.cellsOf e=1)
  (ad:Value.okWide P W .any base t v) (h:DataW.Trod enc P W 0 (λ_=>true) true t v d p):∃l cs i,wS W k e v l cs i:=by
 obtain ⟨fC,len,cap,rfl⟩:=okWide_slice aO ad;obtain ⟨fuel,h⟩:=h;have empty:∀ {T:Types} {ι:bF},Nj T ι W.heap.size [] e false false ⟨0,0,0⟩ W:=λ{T ι} =>
  ⟨fE,λj v aG=>(by simp at aG),λj aG=>(by simp at aG),λ_=>rfl,λh=>(by cases h),λ_=>fE⟩
 rcases open_ints aO he aa h with ⟨iK,_⟩|⟨a,AF,cap',kU,iK,_,hle,_,hlen,_,tj,anw⟩
 have aC:Value.slice fC len cap=.slice none 0 0:=by simpa [Value.cells] using iK
 rw[aC];exact ⟨[],[],⟨0,0,0⟩,λx hx=>(by cases hx),empty,λb=>⟨.slice none 0 0,.af,bV.nil k,λι _=>.xV 0 0,λak h κ _ _=>.af κ⟩⟩;have aC:Value.slice fC len cap=.slice (some a) AF cap':=by simpa [Value.cells] using iK
 rw[aC];simp only[if_true]at hlen;by_cases aR:0<kU.length;obtain ⟨oK,off,rfl,KH⟩:=ints_at tj aR;have b6:=JL (KH 0 aR);refine ⟨kU.take AF,kU.map (Value.int k),⟨oK,off,0⟩,λx hx=>anw x (M0 hx),λ{T ι} =>⟨b6,λj v aG=>?_,λj aG=>?_,λ_=>rfl,λh=>(by cases h),λ_=>b6⟩,λb=>⟨.slice (some ⟨b,0,none⟩) AF cap',_,bV.mk k _,λι hi=>?_,λak h κ aY au=>?_⟩⟩;rw[Bu]at aG;cases aY:kU[j]? with
 |none=>rw[aY]at aG;cases aG
 |some x=>
  rw[aY]at aG;cases aG;have nM:=(nX.1 aY).1;refine ⟨.int k x,?_,.int _ _⟩;rw[KH j nM,ir,aY];rfl
 simp only[qY,Bq,zs]at aG;rw[KH j aG];rfl;exact cE.slice b 0 AF cap' cap' ⟨oK,off,0⟩ hi (cg _) (cg _);have Z:(kU.take AF).length=AF:=by rw[kV];omega
 rw[Z];refine .fs κ _ _ b 0 cap' (kU.map (Value.int k)) e false false aY au (by simp only[qY,kV];omega) D ?_;rw[h5,qY,Z,<-List.map_take];exact c2.ints k _;have uF:cap'=0:=D;have xx:AF=0:=D;subst uF xx;refine ⟨[],[],⟨0,0,0⟩,λx hx=>(by cases hx),empty,λb=>⟨.slice (some ⟨b,0,none⟩) 0 0,_,bV.mk k [],λι hi=>?_,λak h κ aY au=>?_⟩⟩;exact .lW ⟨b,0,none⟩ a _ hi;exact .fs κ _ _ b 0 0 [] e false false aY au (by simp) (by simp) (.nil _)
def E1:List (Value×Value):=[(.int .i64 0,.agg #[hT 453,hT 228]),(.int .i64 1,.agg #[hT 454,hT 455]),(.int .i64 2,.agg #[hT 456,hT 457])]
theorem aco{ι:bF} :∀ {es:List (Value×Value)} {l:List MapEntry},l.map (λe=>(e.key,e.val))=es->(∀p∈es,tN p.1=true∧tN p.2=true)->lh ι es l
 |[],[],_,_=>trivial
 |[],_::_,h,_=>by cases h
 |_::_,[],h,_=>by cases h
 |(a,b)::es,e::l,h,al=>by
  simp only[jE,x7,c4]at h;obtain ⟨⟨rfl,rfl⟩,h⟩:=h;have:=al _ (j5 ..);exact ⟨.xP this.1,.xP this.2,aco h λp hm=>al p (lG _ hm)⟩
def LF:b8:=λb=>if b<3 then some b else none
theorem GO(b:Nat):iO.h.get b=if b=2 then some dL else if b=1 then some dj else if b=0 then some kH else none:=by
 simp only[iO,aJ.tc,aJ.tb]
def xW(dc dw kF ma:List Value):b9:= { h:=((((((aJ.leaf.set 0 (.cells [hT 449,hT 450,hT 451,hT 452] 204 false false)).set 1 (.cells [.map (some 2)] 318 false false)).set 2 (.map E1 false)).set 3 (.cells dc 3 false false)).set 4 (.cells dw 3 false false)).set 5 (.cells kF 3 false false)).set 6 (.cells ma 3 false false),n:=7,ag:=7 }
def Gc(hg:Nat)(i3 i4 i5 i6:iP):bF:=λb=>match b with
 |0=>some ⟨0,0,0⟩
 |1=>some ⟨1,0,0⟩
 |2=>some ⟨hg,0,0⟩
 |3=>some i3
 |4=>some i4
 |5=>some i5
 |6=>some i6
 |_=>none
theorem xX(dc dw kF ma:List Value)(b:Nat):(xW dc dw kF ma).h.get b=if b=6 then some (.cells ma 3 false false) else if b=5 then some (.cells kF 3 false false) else if b=4 then some (.cells dw 3 false false) else if b=3 then some (.cells dc 3 false false) else if b=2 then some (.map E1 false) else
  if b=1 then some (.cells [.map (some 2)] 318 false false) else if b=0 then some (.cells [hT 449,hT 450,hT 451,hT 452] 204 false false) else none:=by
 simp only[xW,aJ.tc,aJ.tb]
theorem anM{hg:Nat}{i3 i4 i5 i6:iP}{b:Nat}{i:iP}(h:Gc hg i3 i4 i5 i6 b=some i):b<7:=by
 unfold Gc at h;split at h<;>first|omega|cases h
theorem XT(dc dw kF ma:List Value)(b:Nat)(o:hs)(h:(xW dc dw kF ma).h.get b=some o):live o=false:=by
 rw[xX]at h;repeat' split at h
 all_goals first|(cases h;done)|(cases h;rfl)
theorem ars{W:World}(gn:laidMetH Tryz.prog xH W){hz v4 kT v6:Value}{dM eU hy nj:List Int}{dc dw kF ma:List Value}{i3 i4 i5 i6:iP}(aj:wS W .i64 3 hz dM dc i3)(aH:wS W .i64 3 v4 eU dw i4)(bD:wS W .i64 3 kT hy kF i5)(cF:wS W .i64 3 v6 nj ma i6):
  ∃hg,fZ 2 types (Gc hg i3 i4 i5 i6) (Full (Gc hg i3 i4 i5 i6)) W.heap.size (xW dc dw kF ma) W∧pR 2 (Gc hg i3 i4 i5 i6):=by
 have hx:=ab2 gn;obtain ⟨hg,ms,clock,l,J,Y,al,Z⟩:=apG gn;have DT:=JL (hx 0 _ rfl);have gR:=JL J;have aew:hg<W.heap.size:=(o9.1 Y).1;refine ⟨hg,⟨λb o i _ au hi=>?_,λb a4 o o' i dt _ _ au _ Z _ _ _ _=>?_,λb i hi=>anM hi,cg _⟩,λg au=>?_⟩;rw[xX]at au;split at au;rename_i e;subst e;cases au;cases hi;exact cF.rel;split at au;rename_i e;subst e;cases au;cases hi;exact bD.rel;split at au;rename_i e;subst e;cases au;cases hi;exact aH.rel;split at au;rename_i e;subst e;cases au;cases hi;exact aj.rel;split at au;rename_i e;subst e;cases au;cases hi;refine ⟨⟨ms,clock,Y,l,aco Z (by simp[E1,hT,tN,plain]),.inr ⟨rfl,al,?_,.i64,?_⟩⟩,λh=>(by cases h),λ_=>aew⟩;have:l.map (λe=>LJ e.key)=(l.map λe=>(e.key,e.val)).map λp=>LJ p.1:=by rw[List.map_map];rfl
 rw[this,Z];decide;intro e he;have:(e.key,e.val)∈l.map λe=>(e.key,e.val):=qn.2 ⟨e,he,rfl⟩;rw[Z]at this;simp only[hc,c4,oy,or_false]at this;rcases this with h|h|h<;>exact ⟨_,h.1⟩
 split at au;rename_i e;subst e;cases au;cases hi;refine ⟨gR,λj v aG=>?_,λj aG=>?_,λ_=>rfl,λh=>(by cases h),λ_=>gR⟩
 match j,aG with
 |0,aG=>cases aG;exact ⟨_,J,.map 2 ⟨hg,0,0⟩ rfl⟩
 |j+1,aG=>simp at aG
 have:j=0:=by simp only[qW,List.length_nil,Bq]at aG;omega
 subst this;show (W.cell? ⟨1,0+0,none⟩).isSome=true;rw[J];rfl;split at au;rename_i e;subst e;cases au;cases hi;refine ⟨DT,λj v aG=>⟨v,by rw[gD];exact hx j v aG,cE.Dm ?_⟩,λj aG=>?_,λ_=>rfl,λh=>(by cases h),λ_=>DT⟩;have:=hR aG;simp only[hc,oy,or_false]at this;rcases this with rfl|rfl|rfl|rfl<;>rfl
 have aG:j<4:=by simpa using aG
 have:∃v,[hT 449,hT 450,hT 451,hT 452][j]? =some v:=⟨_,mA (by simpa using aG)⟩;obtain ⟨v,ad⟩:=this;show (W.cell? ⟨0,0+j,none⟩).isSome=true;rw[gD,hx j v ad];rfl;cases au;rw[XT _ _ _ _ _ _ au]at Z;cases Z
 match g,au with
 |0,_=>exact ⟨0,rfl⟩
 |1,_=>exact ⟨0,rfl⟩
theorem arF(dc dw kF ma:List Value):dP 2 LF (λc=>c<7) iO (xW dc dw kF ma):=by
 have n2:∀ {h:aJ hs} {κ:b8} (n:Nat),R (λc=>c<7) h κ (.fn n [] []) (hT n):=λn=>.fn _ _ _ _ _ _ (.nil _) (.nil _);have rI:∀ {b c:Nat},LF b=some c->c=b∧b<3:=λ{b c} h=>by
  unfold LF at h;split at h;cases h;exact ⟨rfl,by assumption⟩;cases h
 refine ⟨λb o c Y hk=>?_,λb c hk=>?_,λb a4 c h h'=>?_,λb o c Y Z hk=>?_,λc h=>h,⟨cg _,cg _⟩,λg au=>?_,λb cs e bw c Y hk=>?_⟩
 ·obtain ⟨rfl,b6⟩:=rI hk;rw[GO]at Y;split at Y;rename_i e;subst e;cases Y;refine ⟨.map E1 false,by rw[xX];rfl,E1,false,rfl,?_,λh=>h⟩;exact ⟨.int _ _ _,.agg _ _ _ (.cons _ _ _ _ _ (n2 _) (.cons _ _ _ _ _ (n2 _) (.nil _))),.int _ _ _,.agg _ _ _ (.cons _ _ _ _ _ (n2 _) (.cons _ _ _ _ _ (n2 _) (.nil _))),.int _ _ _,.agg _ _ _ (.cons _ _ _ _ _ (n2 _) (.cons _ _ _ _ _ (n2 _) (.nil _))),trivial⟩;split at Y;rename_i e;subst e;cases Y;exact ⟨_,by rw[xX];rfl,_,false,rfl,.cons _ _ _ _ _ (.map _ 2 2 rfl) (.nil _),λh=>h⟩;split at Y;rename_i e;subst e;cases Y;exact ⟨_,by rw[xX];rfl,_,false,rfl,.cons _ _ _ _ _ (n2 _) (.cons _ _ _ _ _ (n2 _) (.cons _ _ _ _ _ (n2 _) (.cons _ _ _ _ _ (n2 _) (.nil _)))),λh=>h⟩;cases Y
 ·obtain ⟨rfl,h⟩:=rI hk;exact ⟨h,by show c<7;omega⟩
 ·obtain ⟨rfl,_⟩:=rI h;obtain ⟨e,_⟩:=rI h';exact e
 ·rw[GO]at Y;repeat' split at Y
  all_goals first|(cases Y;done)|(cases Y;cases Z)
 simp only[LF,if_pos (show g<3 by omega)];obtain ⟨rfl,h⟩:=rI hk;show c<7;omega
theorem aq9{W:World}(gn:laidMetH Tryz.prog xH W){hz v4 kT v6:Value}{dM eU hy nj:List Int}{dc dw kF ma:List Value}{i3 i4 i5 i6:iP}(aj:wS W .i64 3 hz dM dc i3)(aH:wS W .i64 3 v4 eU dw i4)(bD:wS W .i64 3 kT hy kF i5)(cF:wS W .i64 3 v6 nj ma i6){f:Nat}{n m:Int}
  (aa:∀x y z w,bV .i64 x dM->bV .i64 y eU->bV .i64 z hy->bV .i64 w nj-> ∃r,r=.bool true∧mb zD funcs types f [x,y,z,w,.int .i64 n,.int .i64 m] iO=some (r,iO)):
  Calls Tryz.prog f #[hz,v4,kT,v6,.int .i64 n,.int .i64 m] W λe zG=>e=.returned (.bool true)∧zG.os=W.os∧zG.output=W.output∧W.heap.size<=zG.heap.size∧ ∀r,r<W.heap.size->zG.heap[r]? =W.heap[r]? :=by
 obtain ⟨hg,iM,au⟩:=ars gn aj aH bD cF;obtain ⟨dy,gx,anz,am3,alg⟩:=aj.val 3;obtain ⟨jc,g4,anA,am4,alh⟩:=aH.val 4;obtain ⟨adZ,TC,anB,am5,ali⟩:=bD.val 5;obtain ⟨ad0,aem,anC,am6,alj⟩:=cF.val 6;obtain ⟨_,rfl,hP⟩:=aa gx g4 TC aem anz anA anB anC;obtain ⟨N,r,ie,E⟩:=XG _ _ _ _ hP (cg _);split at E;rename_i v s;obtain ⟨E,_⟩:=E;cases E;have eH:(xW dc dw kF ma).h.get 3=some (.cells dc 3 false false):=by rw[xX];rfl
 have e0:(xW dc dw kF ma).h.get 4=some (.cells dw 3 false false):=by rw[xX];rfl
 have mK:(xW dc dw kF ma).h.get 5=some (.cells kF 3 false false):=by rw[xX];rfl
 have rl:(xW dc dw kF ma).h.get 6=some (.cells ma 3 false false):=by rw[xX];rfl
 obtain ⟨bR,cx,u,G2,hu,_,alU⟩:=aes (B:=W.heap.size) (P:=Tryz.prog) aA asc Yz (Wq (XL Yz)) ie (arF dc dw kF ma) (ML:=[dy,jc,adZ,ad0,.int .i64 n,.int .i64 m])
  (.cons _ _ _ _ _ (alg _ _ _ aS eH) (.cons _ _ _ _ _ (alh _ _ _ aS e0) (.cons _ _ _ _ _ (ali _ _ _ aS mK) (.cons _ _ _ _ _ (alj _ _ _ aS rl) (.cons _ _ _ _ _ (.int _ _ _) (.cons _ _ _ _ _ (.int _ _ _) (.nil _)))))))
  (λ_=>cg _) iM au (args':= #[hz,v4,kT,v6,.int .i64 n,.int .i64 m]) (.cons _ _ _ _ (am3 _ rfl) (.cons _ _ _ _ (am4 _ rfl) (.cons _ _ _ _ (am5 _ rfl) (.cons _ _ _ _ (am6 _ rfl) (.cons _ _ _ _ (.int _ _) (.cons _ _ _ _ (.int _ _) .nil))))))
 refine (callsIn_wide.1 alU).mono λe zG al=>?_;obtain ⟨bI,v',he,ad,tm⟩:=al;cases hu;cases ad;exact ⟨he,tm.out.1,tm.out.2,tm.size,λr E=>tm.wg r E λb i o _ _ Y Z=>by rw[XT _ _ _ _ _ _ Y]at Z;cases Z⟩;exact E.elim
end Go.ah.X
namespace Go.Proofs.YtalmddmghdinkaaGreatDoor
open Go
theorem anY:(λ(P:Program) (f:FuncId) (fn:Func) (s:ChangeSpec) (c:OpenClaim)=>(c.wf (OpenSpec.ofChange s):Bool)) Tryz.prog 3 Tryz.f3 Rows.promiseTellsSpec Rows.promiseTellsRow=true:=aA
theorem anZ:(λ(P:Program) (f:FuncId) (fn:Func) (s:ChangeSpec) (c:OpenClaim)=>(laidOutB P:Bool)) Tryz.prog 3 Tryz.f3 Rows.promiseTellsSpec Rows.promiseTellsRow=true:=aA
theorem aoa:(λ(P:Program) (f:FuncId) (fn:Func) (s:ChangeSpec) (c:OpenClaim)=>(mapsRowed P:Bool)) Tryz.prog 3 Tryz.f3 Rows.promiseTellsSpec Rows.promiseTellsRow=true:=aA
theorem aol:(λ(P:Program) (f:FuncId) (fn:Func) (s:ChangeSpec) (c:OpenClaim)=>(fn.params.all (P.readableRec ·):Bool)) Tryz.prog 3 Tryz.f3 Rows.promiseTellsSpec Rows.promiseTellsRow=true:=aA
theorem aoo:(λ(P:Program) (f:FuncId) (fn:Func) (s:ChangeSpec) (c:OpenClaim)=>(namedTie P c.named s.vars:Bool)) Tryz.prog 3 Tryz.f3 Rows.promiseTellsSpec Rows.promiseTellsRow=true:=aA
theorem aop:(λ(P:Program) (f:FuncId) (fn:Func) (s:ChangeSpec) (c:OpenClaim)=>((c.stops == []):Bool)) Tryz.prog 3 Tryz.f3 Rows.promiseTellsSpec Rows.promiseTellsRow=true:=aA
theorem aoq:(λ(P:Program) (f:FuncId) (fn:Func) (s:ChangeSpec) (c:OpenClaim)=>((P.stops == []):Bool)) Tryz.prog 3 Tryz.f3 Rows.promiseTellsSpec Rows.promiseTellsRow=true:=aA
theorem aor:(λ(P:Program) (f:FuncId) (fn:Func) (s:ChangeSpec) (c:OpenClaim)=>((c.knobs == []):Bool)) Tryz.prog 3 Tryz.f3 Rows.promiseTellsSpec Rows.promiseTellsRow=true:=aA
theorem aos:(λ(P:Program) (f:FuncId) (fn:Func) (s:ChangeSpec) (c:OpenClaim)=>((P.stopKnobs == []):Bool)) Tryz.prog 3 Tryz.f3 Rows.promiseTellsSpec Rows.promiseTellsRow=true:=aA
theorem aot:(λ(P:Program) (f:FuncId) (fn:Func) (s:ChangeSpec) (c:OpenClaim)=>((c.inPlace == P.inPlace f):Bool)) Tryz.prog 3 Tryz.f3 Rows.promiseTellsSpec Rows.promiseTellsRow=true:=aA
theorem an0:(λ(P:Program) (f:FuncId) (fn:Func) (s:ChangeSpec) (c:OpenClaim)=>((c.unfollowed == P.unfollowed f):Bool)) Tryz.prog 3 Tryz.f3 Rows.promiseTellsSpec Rows.promiseTellsRow=true:=aA
theorem an1:(λ(P:Program) (f:FuncId) (fn:Func) (s:ChangeSpec) (c:OpenClaim)=>((c.recurses == P.recurses f):Bool)) Tryz.prog 3 Tryz.f3 Rows.promiseTellsSpec Rows.promiseTellsRow=true:=aA
theorem an2:(λ(P:Program) (f:FuncId) (fn:Func) (s:ChangeSpec) (c:OpenClaim)=>((c.named == P.varsNamed f):Bool)) Tryz.prog 3 Tryz.f3 Rows.promiseTellsSpec Rows.promiseTellsRow=true:=aA
theorem an3:(λ(P:Program) (f:FuncId) (fn:Func) (s:ChangeSpec) (c:OpenClaim)=>((c.maps == (fn.params.toList++s.plain.varTypes P).any (P.mapsRec ·)):Bool)) Tryz.prog 3 Tryz.f3 Rows.promiseTellsSpec Rows.promiseTellsRow=true:=aA
theorem an4:(λ(P:Program) (f:FuncId) (fn:Func) (s:ChangeSpec) (c:OpenClaim)=>((c.ifaces == (fn.params.toList++s.plain.varTypes P).any (P.ifacesRec ·)):Bool)) Tryz.prog 3 Tryz.f3 Rows.promiseTellsSpec Rows.promiseTellsRow=true:=aA
theorem an5:(λ(P:Program) (f:FuncId) (fn:Func) (s:ChangeSpec) (c:OpenClaim)=>((c.mapsOut == P.mapsAmong fn.resultTypes.toList):Bool)) Tryz.prog 3 Tryz.f3 Rows.promiseTellsSpec Rows.promiseTellsRow=true:=aA
theorem an6:(λ(P:Program) (f:FuncId) (fn:Func) (s:ChangeSpec) (c:OpenClaim)=>((c.loops == (fn.params.toList++s.plain.varTypes P).any (P.loopsFrom ·)):Bool)) Tryz.prog 3 Tryz.f3 Rows.promiseTellsSpec Rows.promiseTellsRow=true:=aA
theorem an7:(λ(P:Program) (f:FuncId) (fn:Func) (s:ChangeSpec) (c:OpenClaim)=>((c.wideKeys == (fn.params.toList++s.plain.varTypes P++fn.resultTypes.toList).any (P.wideKeysFrom ·)):Bool)) Tryz.prog 3 Tryz.f3 Rows.promiseTellsSpec Rows.promiseTellsRow=true:=aA
theorem an8:(λ(P:Program) (f:FuncId) (fn:Func) (s:ChangeSpec) (c:OpenClaim)=>(s.vars.all (P.varReadable ·):Bool)) Tryz.prog 3 Tryz.f3 Rows.promiseTellsSpec Rows.promiseTellsRow=true:=aA
theorem an9:(λ(P:Program) (f:FuncId) (fn:Func) (s:ChangeSpec) (c:OpenClaim)=>(fn.resultTypes.all (λt=>P.readableRec t && decide (t<P.types.size)):Bool)) Tryz.prog 3 Tryz.f3 Rows.promiseTellsSpec Rows.promiseTellsRow=true:=aA
theorem aob:(λ(P:Program) (f:FuncId) (fn:Func) (s:ChangeSpec) (c:OpenClaim)=>((c.ifacesOut == fn.resultTypes.toList.any (P.ifacesRec ·)):Bool)) Tryz.prog 3 Tryz.f3 Rows.promiseTellsSpec Rows.promiseTellsRow=true:=aA
theorem aoc:(λ(P:Program) (f:FuncId) (fn:Func) (s:ChangeSpec) (c:OpenClaim)=>((c.loopsOut == fn.resultTypes.toList.any (P.loopsFrom ·)):Bool)) Tryz.prog 3 Tryz.f3 Rows.promiseTellsSpec Rows.promiseTellsRow=true:=aA
theorem aod:(λ(P:Program) (f:FuncId) (fn:Func) (s:ChangeSpec) (c:OpenClaim)=>((c.plainKeys == P.plainKeys):Bool)) Tryz.prog 3 Tryz.f3 Rows.promiseTellsSpec Rows.promiseTellsRow=true:=aA
theorem aoe:(λ(P:Program) (f:FuncId) (fn:Func) (s:ChangeSpec) (c:OpenClaim)=>(c.shortTexts.isNone:Bool)) Tryz.prog 3 Tryz.f3 Rows.promiseTellsSpec Rows.promiseTellsRow=true:=aA
theorem aof:(λ(P:Program) (f:FuncId) (fn:Func) (s:ChangeSpec) (c:OpenClaim)=>(P.stopsHeard:Bool)) Tryz.prog 3 Tryz.f3 Rows.promiseTellsSpec Rows.promiseTellsRow=true:=aA
theorem aog:(λ(P:Program) (f:FuncId) (fn:Func) (s:ChangeSpec) (c:OpenClaim)=>(P.mayEnter:Bool)) Tryz.prog 3 Tryz.f3 Rows.promiseTellsSpec Rows.promiseTellsRow=true:=aA
theorem aoh:(λ(P:Program) (f:FuncId) (fn:Func) (s:ChangeSpec) (c:OpenClaim)=>((c.lifted == P.liftsFinal):Bool)) Tryz.prog 3 Tryz.f3 Rows.promiseTellsSpec Rows.promiseTellsRow=true:=aA
theorem aoi:(λ(P:Program) (f:FuncId) (fn:Func) (s:ChangeSpec) (c:OpenClaim)=>((P.make == some c.make):Bool)) Tryz.prog 3 Tryz.f3 Rows.promiseTellsSpec Rows.promiseTellsRow=true:=aA
theorem aoj:(λ(P:Program) (f:FuncId) (fn:Func) (s:ChangeSpec) (c:OpenClaim)=>((c.kinds == (if c.domain.isEmpty then [] else fn.params.toList.map λt=>match P.underlying t with|some (.int k)=>some k|_=>none)):Bool)) Tryz.prog 3 Tryz.f3 Rows.promiseTellsSpec Rows.promiseTellsRow=true:=aA
theorem aok:(λ(P:Program) (f:FuncId) (fn:Func) (s:ChangeSpec) (c:OpenClaim)=>((c.pinned == c.pinnedBy):Bool)) Tryz.prog 3 Tryz.f3 Rows.promiseTellsSpec Rows.promiseTellsRow=true:=aA
theorem aom:(λ(P:Program) (f:FuncId) (fn:Func) (s:ChangeSpec) (c:OpenClaim)=>((c.veiled == (fn.params.toList++s.plain.varTypes P++fn.resultTypes.toList).any (P.veiledRec ·)):Bool)) Tryz.prog 3 Tryz.f3 Rows.promiseTellsSpec Rows.promiseTellsRow=true:=aA
theorem aon:(λ(P:Program) (f:FuncId) (fn:Func) (s:ChangeSpec) (c:OpenClaim)=>(c.veiledFits P fn.params.toList (fn.params.toList++s.plain.varTypes P++fn.resultTypes.toList):Bool)) Tryz.prog 3 Tryz.f3 Rows.promiseTellsSpec Rows.promiseTellsRow=true:=aA
theorem jR{a b:Bool}(h:a=true)(h':b=true):(a && b)=true:=by rw[h,h'];rfl
theorem aou:joinedFacts Tryz.prog 3 Tryz.f3 Rows.promiseTellsSpec Rows.promiseTellsRow=true:=(jR (jR (jR (jR (jR (jR (jR (jR (jR (jR (jR (jR (jR (jR (jR (jR (jR (jR (jR (jR (jR (jR (jR (jR (jR (jR (jR (jR (jR (jR (jR anY anZ) aoa) aol) aoo) aop) aoq) aor) aos) aot) an0) an1) an2) an3) an4) an5) an6) an7) an8) an9) aob) aoc) aod) aoe) aof) aog) aoh) aoi) aoj) aok) aom) aon)
end Go.Proofs.YtalmddmghdinkaaGreatDoor
