/-
  A part: lemmas; conditions: those that each names.
-/
import Derived.Test.YtalmddmghdinkaaGreatDoorX
set_option linter.all false
set_option linter.deprecated false
noncomputable section
set_option maxHeartbeats 8000000
set_option maxRecDepth 20000
namespace Go.ah.X
open Go Go.ah Go.Proofs.dI
section
attribute [local irreducible] bZ dp aF gZ cJ et c6 e9 eT aW aw cT bB e5 fD ef gv fl eV fe aV
section
variable {A B fi B' n m:Nat}{x y z:Rat}{a b c d a8 a4 bj bK e f g i aZ gj g0 dt:V}{p q:Int}
theorem db.to(h:db A B x a b c d){x':Rat}(e:x=x')(Y:x'.num.natAbs<=fi∧x'.den<=B'):db fi B' x' a b c d:=e ▸ ⟨h.1,e ▸ Y⟩
theorem ns:db 0 1 0 (.bool false) .af (.bool false) .af:=⟨SL.1,cg _,cg _⟩
abbrev vw(a b c d:V):Prop:=db 0 1 0 a b c d
theorem aeU(J:db A B x a b c d)(U:vw a8 a4 bj bK)(aj:vw e f g i)(aH:vw aZ gj g0 dt)(gW:A<100000000:=by omega)(fE:B<100000000:=by omega):cI 174 [.agg [a,b,c,d],.agg [a8,a4,bj,bK],.agg [e,f,g,i],.agg [aZ,gj,g0,dt]] (jh (db A B x)):=⟨λs ae au=>
 (U9 (cv aS)).ee 0 (by
  show aV _ (Ie a9 0 (.agg [a,b,c,d]) (.agg [a8,a4,bj,bK]) (.agg [e,f,g,i]) (.agg [aZ,gj,g0,dt]) s);unfold Ie;simp only[cw];have h:=aX.nil ae au;have r:=h.bX;have gR:(0:Rat).num.natAbs<=0∧(0:Rat).den<=1:=⟨cg _,cg _⟩;repeat' first
   |refine kt ?_
   |refine mL h λ_ _ _ h r=>?_
   |refine cf h λ_ _ h r=>?_
   |refine eN h (M9 (p:=1) (k:=2)) λ_ _ _ _ u=>?_
   |refine eN h (Bz aj aH D D) λ_ _ _ _ w=>?_
   |refine eN h (Bz u w aS aS) λ_ _ _ _ w'=>?_;replace w':=w'.to (x':=0) (by grind) gR
   |refine fN h cj (λ_ _ h r=>?_) (hx:=dB (db.atoms w'))
   |refine eN h (x9 U w' aS aS) λ_ _ _ _ dm=>?_;replace dm:=dm.to (x':=0) (by grind) gR
   |refine eN h (Bz aH dm D D) λ_ _ _ _ fg=>?_;replace fg:=fg.to (x':=0) (by grind) gR
   |refine eN h (x9 J fg D D) λ_ _ _ _ fy=>?_;replace fy:=fy.to (x':=x) (by grind) J.2
   |refine fN h cj (λ_ _ h r=>?_) (hx:=dB (db.atoms fy))
   |exact dh h ae fy.atoms ⟨_,_,_,_,rfl,fy⟩) D,by simp[J.pV,U.pV,aj.pV,aH.pV]⟩
theorem db.re{l:List V}(h:db A B x a b c d)(Z:l=[a,b,c,d]):eX 4 (kE A B) [x] l:=by
 subst Z;exact eX.one ⟨_,_,_,_,rfl,h⟩ rfl h.atoms
theorem aqM:((0:Int):Rat) / ((1:Int):Rat)=0:=by rw[show ((0:Int):Rat)=0 from rfl];grind
theorem adr:gN 0 0=0:=by rw[arq]
theorem abw(x:Rat):sB x x=x:=if_neg D2
theorem YL(x:Rat):sf x x=x:=if_neg D2
theorem aeH(J:db A B x a b c d)(U:vw a8 a4 bj bK)(aj:vw e f g i)(gW:A<100000000:=by omega)(fE:B<100000000:=by omega):cI 140 [.agg [a,b,c,d],.agg [a8,a4,bj,bK],.agg [e,f,g,i],.int .i64 0] (El (db A B x) (db A B x)):=⟨λs ae au=>
 (UQ (cv aS)).ee 0 (by
  show aV _ (HU a9 0 (.agg [a,b,c,d]) (.agg [a8,a4,bj,bK]) (.agg [e,f,g,i]) (.int .i64 0) s);unfold HU;simp only[cw];have h:=aX.nil ae au;have r:=h.bX;have gR:(0:Rat).num.natAbs<=0∧(0:Rat).den<=1:=⟨cg _,cg _⟩;have pq:mq true [.int .i64 0,.int .i64 0]=some (.int .i64 0):=rfl;have Xi:=M9 (p:=0) (k:=1);rw[aqM]at Xi;have Xh:=λ{v:V} (U:fY 4 (kE A B) [x] v)=>D7 (n:=A) (m:=B) J U;rw[abw,YL]at Xh;have Xl:=Na aj.1;rw[adr]at Xl;have bC:=ar @pq (ar @gm (show decide ((0:Int)≠0)=false from rfl));repeat' first
   |refine gV ?_
   |refine cf h λ_ _ h r=>?_
   |refine lp h Xi λ_ _ _ _ u=>?_;replace u:vw _ _ _ _:=u.to (x':=0) rfl gR
   |refine c9 h cj (λ_ h r=>?_) (hx:=dB (db.atoms u))
   |refine lp h (aeU J U aj u) λ_ _ _ _ w=>?_
   |refine oT h (c:=cC 1 [.bool false,.af,.bool false,.af]) rfl rfl λv _ h r=>?_
   |refine lp h (aeW U.1 aj.1) λ_ _ _ _ o=>?_
   |refine lp h (aeV o.1) λ_ _ _ _ o'=>?_
   |refine c9 h cj (λ_ h r=>?_) (hx:=dB (kZ.a2 o'))
   |refine gr h Xl (λ_ e=>?_);subst e
   |refine YA [.agg [a,b,c,d]] [] h hG w.atoms (by simp[ep,J.atoms]) rfl (λv ad=>Xh ⟨_,ad,w.re rfl⟩) λ_ _ ⟨_,_,_,_,_,_,_,_,e,cL,cS⟩ h r=>?_;subst e
   |refine c9 h cj (λ_ h r=>?_) (hx:=dB (db.atoms c3))
   |exact nJ h ae cL.atoms cS.atoms ⟨_,_,_,_,_,_,_,_,rfl,cL,cS⟩) D,by simp[J.pV,U.pV,aj.pV];rfl⟩
theorem l7.cs{P:Int×Int}{c:List V}(h:l7 P c):c=[.int .i64 P.1,.int .i64 P.2]:=h
theorem R1{F:Int×Int->Int}{l:List (Int×Int)}{j:Nat}(aR:0<l.length)(h:0<j){P:Int×Int}(al:l[j]? =some P):kg ((l.take (j+1)).map F)=min (kg ((l.take j).map F)) (F P):=by
 rw[xY al,List.map_append];unfold kg;rw[List.foldl_append];have:((l.take j).map F++ [P].map F).headD 0=((l.take j).map F).headD 0:=by
  cases l with
  |nil=>simp at aR
  |cons x l=>obtain ⟨j,rfl⟩:∃i,j=i+1:=⟨j - 1,D⟩;rfl
 rw[jE,oz]at this ⊢;rw[this];rfl
theorem R2{F:Int×Int->Int}{l:List (Int×Int)}{j:Nat}(aR:0<l.length)(h:0<j){P:Int×Int}(al:l[j]? =some P):dk ((l.take (j+1)).map F)=max (dk ((l.take j).map F)) (F P):=by
 rw[xY al,List.map_append];unfold dk;rw[List.foldl_append];have:((l.take j).map F++ [P].map F).headD 0=((l.take j).map F).headD 0:=by
  cases l with
  |nil=>simp at aR
  |cons x l=>obtain ⟨j,rfl⟩:∃i,j=i+1:=⟨j - 1,D⟩;rfl
 rw[jE,oz]at this ⊢;rw[this];rfl
theorem GW(a b:Int):e8 a b<0↔a<b:=by unfold e8;(repeat' split)<;>omega
theorem GV(a b:Int):0<e8 a b↔b<a:=by unfold e8;(repeat' split)<;>omega
theorem TW{pz w gd:Nat}{F:Int×Int->Int}(aM:BM pz F){v:V}{c5:List (Int×Int)}(ad:fY 2 l7 c5 v)(aR:0<c5.length)(Z:c5.length<=100):sU 135 [v,.fn 136 [] [.ptr gd 0]] [(gd,[.fn w [] [],.fn pz [] []])] (λr=> ∃P,P∈c5∧r=.agg [.int .i64 P.1,.int .i64 P.2]∧F P=kg (c5.map F)):=⟨λs ae au aE=>
 (UK (cv aS)).ee 101 (by
  show aV _ (HO a9 101 v (.fn 136 [] [.ptr gd 0]) s);unfold HO;simp only[cw];generalize eO:101=N;have h:=(aX.nil ae au).q7 aE.1.1 aE.1.2;have r:=h.bX;obtain ⟨yh,eY,sG,dj,dL,_,_,eH⟩:=ad.c1 (i:=0) D D;cases dL.cs;have eH:=eH .i64;refine cf h λfh _ h r=>?_;simp (disch:=first|omega|exact fW.of ib|exact mZ.of (by simp only[mR];decide+kernel)|assumption) only[fU,st,e2,bg,r,ad.len,eH,hJ];refine cf h λGn _ h r=>?_;refine c9 h cj (λ_ h r=>?_);simp (disch:=first|omega|exact fW.of ib|exact mZ.of (by simp only[mR];decide+kernel)|assumption) only[fU,st,e2,bg,r];refine hO (λk vs t=> ∃(j:Nat) (P:Int×Int),vs=[.int .i64 j,.fn 136 [] [.ptr gd 0],v,.ptr Gn 0,.ptr fh 0]∧aX s t [.cM Gn [.int .i64 P.1,.int .i64 P.2] 82,.cM fh [.int .i64 0,.int .i64 0] 82,.ro gd [.fn w [] [],.fn pz [] []]]∧P∈c5∧F P=kg ((c5.take j).map F)∧0<j∧j+k=c5.length) (c5.length - 1) ⟨1,yh,rfl,h,hR dj,?_,D,D⟩ D ?_;rw[Hr,sP,show c5[0]? =some yh from dj];simp[kg];rintro a3 k t _ ⟨j,P,rfl,h,cQ,xk,aG,mN⟩ cR;have r:=h.bX;by_cases po:j<c5.length
  ·obtain ⟨eR,bj,r',cL,cS,_,_,ds⟩:=ad.c1 (i:=(j:Int)) D D;cases cS.cs;have ds:=ds .i64;rw[dZ]at cL;have hm:=R1 (F:=F) aR aG cL;by_cases b6:F eR<F P
   ·have aa:=(GW (F eR) (F P)).2 b6;have bC:=ar @ad.len (ar @ds (ar @hJ @bT));repeat' first
     |refine gV ?_
     |refine p0 h (TX (w:=w) aM eR P) ⟨h.or (by simp),trivial⟩ (λ_ e=>?_);subst e
     |refine c9 h cj (λ_ h r=>?_)
     |exact cR (k - 1) _ _ D ⟨j+1,eR,rfl,h,hR cL,by rw[hm,<-xk];omega,D,D⟩
   ·have aa: ¬e8 (F eR) (F P)<0:=λh=>b6 ((GW (F eR) (F P)).1 h);have bC:=ar @ad.len (ar @ds (ar @hJ @bT));repeat' first
     |refine gV ?_
     |refine p0 h (TX (w:=w) aM eR P) ⟨h.or (by simp),trivial⟩ (λ_ e=>?_);subst e
     |exact cR (k - 1) _ _ D ⟨j+1,P,rfl,h,cQ,by rw[hm,<-xk];omega,D,D⟩
  ·have Qx:j=c5.length:=D;subst Qx;rw[oB]at xk;have bC:= @ad.len;repeat' first
    |refine gV ?_
    |refine c9 h cj (λ_ h r=>?_)
    |exact dh h ae rfl ⟨P,cQ,rfl,xk⟩) D,by simp only[gS,pM,wP,tD];rw[show a2 v=true from (let ⟨_,h,_⟩:=ad;h.a2)];rfl⟩
theorem TZ{pz w gd:Nat}{F:Int×Int->Int}(aM:BM pz F){v:V}{c5:List (Int×Int)}(ad:fY 2 l7 c5 v)(aR:0<c5.length)(Z:c5.length<=100):sU 138 [v,.fn 139 [] [.ptr gd 0]] [(gd,[.fn w [] [],.fn pz [] []])] (λr=> ∃P,P∈c5∧r=.agg [.int .i64 P.1,.int .i64 P.2]∧F P=dk (c5.map F)):=⟨λs ae au aE=>
 (UN (cv aS)).ee 101 (by
  show aV _ (HR a9 101 v (.fn 139 [] [.ptr gd 0]) s);unfold HR;simp only[cw];generalize eO:101=N;have h:=(aX.nil ae au).q7 aE.1.1 aE.1.2;have r:=h.bX;obtain ⟨yh,eY,sG,dj,dL,_,_,eH⟩:=ad.c1 (i:=0) D D;cases dL.cs;have eH:=eH .i64;refine cf h λfh _ h r=>?_;simp (disch:=first|omega|exact fW.of ib|exact mZ.of (by simp only[mR];decide+kernel)|assumption) only[fU,st,e2,bg,r,ad.len,eH,hJ];refine cf h λGn _ h r=>?_;refine c9 h cj (λ_ h r=>?_);simp (disch:=first|omega|exact fW.of ib|exact mZ.of (by simp only[mR];decide+kernel)|assumption) only[fU,st,e2,bg,r];refine hO (λk vs t=> ∃(j:Nat) (P:Int×Int),vs=[.int .i64 j,.fn 139 [] [.ptr gd 0],v,.ptr Gn 0,.ptr fh 0]∧aX s t [.cM Gn [.int .i64 P.1,.int .i64 P.2] 82,.cM fh [.int .i64 0,.int .i64 0] 82,.ro gd [.fn w [] [],.fn pz [] []]]∧P∈c5∧F P=dk ((c5.take j).map F)∧0<j∧j+k=c5.length) (c5.length - 1) ⟨1,yh,rfl,h,hR dj,?_,D,D⟩ D ?_;rw[Hr,sP,show c5[0]? =some yh from dj];simp[dk];rintro a3 k t _ ⟨j,P,rfl,h,cQ,xk,aG,mN⟩ cR;have r:=h.bX;by_cases po:j<c5.length
  ·obtain ⟨eR,bj,r',cL,cS,_,_,ds⟩:=ad.c1 (i:=(j:Int)) D D;cases cS.cs;have ds:=ds .i64;rw[dZ]at cL;have hm:=R2 (F:=F) aR aG cL;by_cases b6:F P<F eR
   ·have aa:=(GV (F eR) (F P)).2 b6;have bC:=ar @ad.len (ar @ds (ar @hJ @bT));repeat' first
     |refine gV ?_
     |refine p0 h (T0 (w:=w) aM eR P) ⟨h.or (by simp),trivial⟩ (λ_ e=>?_);subst e
     |refine c9 h cj (λ_ h r=>?_)
     |exact cR (k - 1) _ _ D ⟨j+1,eR,rfl,h,hR cL,by rw[hm,<-xk];omega,D,D⟩
   ·have aa: ¬0<e8 (F eR) (F P):=λh=>b6 ((GV (F eR) (F P)).1 h);have bC:=ar @ad.len (ar @ds (ar @hJ @bT));repeat' first
     |refine gV ?_
     |refine p0 h (T0 (w:=w) aM eR P) ⟨h.or (by simp),trivial⟩ (λ_ e=>?_);subst e
     |exact cR (k - 1) _ _ D ⟨j+1,P,rfl,h,cQ,by rw[hm,<-xk];omega,D,D⟩
  ·have Qx:j=c5.length:=D;subst Qx;rw[oB]at xk;have bC:= @ad.len;repeat' first
    |refine gV ?_
    |refine c9 h cj (λ_ h r=>?_)
    |exact dh h ae rfl ⟨P,cQ,rfl,xk⟩) D,by simp only[gS,pM,wP,tD];rw[show a2 v=true from (let ⟨_,h,_⟩:=ad;h.a2)];rfl⟩
end
end
section
section
variable {ao s:S}{L cu:List b2}{Q:ax->Prop}
theorem akT{K:V->S->ct->ax}{f:Nat}{args:List V}{P eR:V->V->V->V->Prop}(h:aX ao s L)(aa:cI f args (El P eR))(H:∀a b c d a8 a4 bj bK,P a b c d->eR a8 a4 bj bK->aV Q (K (.da [.agg [a,b,c,d],.agg [a8,a4,bj,bK]]) s (eM none s.n s.n []))):aV Q (dp (et a9 (.fn f [] []) args s) K):=
 lq h aa λv ⟨a,b,c,d,a8,a4,bj,bK,e,al,uT⟩=>e ▸ H a b c d a8 a4 bj bK al uT
end
theorem mM{Q:ax->Prop}{o o':Option V}{K:V->ax}(e:o=o')(h:aV Q (aF o' K)):aV Q (aF o K):=e ▸ h
theorem oU{Q:ax->Prop}{o o':Option (V×S)}{K:V->S->ax}(e:o=o')(h:aV Q (bZ o' K)):aV Q (bZ o K):=e ▸ h
theorem Cq{Q:ax->Prop}{o o':mX}{K:V->S->ct->ax}(e:o=o')(h:aV Q (dp o' K)):aV Q (dp o K):=e ▸ h
theorem Kh{Q:ax->Prop}{c bj:V}{a b:ax}(e:c=bj)(h:aV Q (aW bj a b)):aV Q (aW c a b):=e ▸ h
theorem Kj{Q:ax->Prop}{n:Nat}{b:(List V->S->ax)->List V->S->ax}{l l':List V}{s:S}(e:l=l')(h:aV Q (cT n b l' s)):aV Q (cT n b l s):=e ▸ h
theorem Ki{Q:ax->Prop}{ao s:S}{l l':List (Option V)}(e:l=l')(h:aV Q (bB ao s l')):aV Q (bB ao s l):=e ▸ h
theorem Kk{Q:ax->Prop}{ao s:S}{l l':List (Option V)}(e:l=l')(h:aV Q (e5 true ao s l')):aV Q (e5 true ao s l):=e ▸ h
theorem Cz{Q:ax->Prop}{v:V}{K:V->ax}(h:aV Q (K v)):aV Q (aF (some v) K):=by rw[w8];exact h
theorem Kr{Q:ax->Prop}{v:V}{s:S}{K:V->S->ax}(h:aV Q (K v s)):aV Q (bZ (some (v,s)) K):=by rw[js];exact h
theorem Kp{Q:ax->Prop}{v:V}{s:S}{x:ct}{K:V->S->ct->ax}(h:aV Q (K v s x)):aV Q (dp (some (v,s,x)) K):=by rw[pX];exact h
theorem yD{Q:ax->Prop}{k:List V->S->ax}{c:(List V->S->ax)->ax}(h:aV Q (c k)):aV Q (aw k c):=h
theorem Ks{Q:ax->Prop}{a b:ax}(h:aV Q a):aV Q (aW (.bool true) a b):=h
theorem Kq{Q:ax->Prop}{a b:ax}(h:aV Q b):aV Q (aW (.bool false) a b):=h
theorem Kg{Q:ax->Prop}{p:Prop}[Decidable p]{a b:ax}(al:p)(h:aV Q a):aV Q (aW (.bool (decide p)) a b):=by rw[Cc _ _ al];exact h
theorem Kf{Q:ax->Prop}{p:Prop}[Decidable p]{a b:ax}(al: ¬p)(h:aV Q b):aV Q (aW (.bool (decide p)) a b):=by rw[EJ _ _ al];exact h
theorem Fk{Q:ax->Prop}{m:List Nat}{l:List ct}{k:ax}(h:mZ (Cd m (lX l)))(h':aV Q k):aV Q (gZ (fe m l) k):=by rw[aea h];exact h'
theorem iG{Q:ax->Prop}{a a8:ax}(h:aV Q a8)(e:∀R,aV R a8->aV R a:=by intro _;first|exact λh=>by simp only[AQ,AP];exact h|exact yD|exact mM (by simp (disch:=first|omega|exact fW.of ib|assumption) only[fU,st,e2,bg,gm,r];exact rfl)|exact oU (by simp (disch:=first|omega|exact fW.of ib|assumption) only[fU,st,e2,bg,gm,r];exact rfl)|exact Cq (by simp (disch:=first|omega|exact fW.of ib|assumption) only[fU,st,e2,bg,gm,r];exact rfl)|exact Kh (by simp (disch:=first|omega|exact fW.of ib|assumption) only[fU,st,e2,bg,gm,r];exact rfl)|exact Kj (by simp (disch:=first|omega|exact fW.of ib|assumption) only[fU,st,e2,bg,gm,r];exact rfl)|exact Ki (by simp (disch:=first|omega|exact fW.of ib|assumption) only[fU,st,e2,bg,gm,r];exact rfl)|exact Kk (by simp (disch:=first|omega|exact fW.of ib|assumption) only[fU,st,e2,bg,gm,r];exact rfl)|exact Cz|exact Kr|exact Kp|exact Ks|exact Kq|exact Kg D|exact Kf D|exact Fk (mZ.of (by simp only[mR];decide+kernel))):aV Q a:=e Q h
theorem cO{Q:ax->Prop}{a a8:ax}(h:aV Q a8)(e:∀R,aV R a8->aV R a:=by intro _;first|exact λh=>by simp only[AQ,AP];exact h|exact yD|exact mM (by simp (disch:=first|omega|exact fW.of ib|assumption) only[fU,st,e2,bg,gm,r,bC];exact rfl)|exact oU (by simp (disch:=first|omega|exact fW.of ib|assumption) only[fU,st,e2,bg,gm,r,bC];exact rfl)|exact Cq (by simp (disch:=first|omega|exact fW.of ib|assumption) only[fU,st,e2,bg,gm,r,bC];exact rfl)|exact Kh (by simp (disch:=first|omega|exact fW.of ib|assumption) only[fU,st,e2,bg,gm,r,bC];exact rfl)|exact Kj (by simp (disch:=first|omega|exact fW.of ib|assumption) only[fU,st,e2,bg,gm,r,bC];exact rfl)|exact Ki (by simp (disch:=first|omega|exact fW.of ib|assumption) only[fU,st,e2,bg,gm,r,bC];exact rfl)|exact Kk (by simp (disch:=first|omega|exact fW.of ib|assumption) only[fU,st,e2,bg,gm,r,bC];exact rfl)|exact Cz|exact Kr|exact Kp|exact Ks|exact Kq|exact Kg D|exact Kf D|exact Fk (mZ.of (by simp only[mR];decide+kernel))):aV Q a:=e Q h
theorem Ct{Q:ax->Prop}{n:Nat}{b:(List V->S->ax)->List V->S->ax}{l:List V}{s:S}(h:aV Q (b (cT n b) l s)):aV Q (cT (n+1) b l s):=h
attribute [local irreducible] jj bZ dp aF gZ cJ et c6 e9 eT aW aw cT bB e5 fD ef gv fl eV fe aV
def mD(A B:Nat)(b:je)(v:V):Prop:= ∃b1 cq cV dn bb bU cP c7 cy cm dc dw d1 d2 d3 d4,v=.agg [b1,cq,cV,dn,bb,bU,cP,c7,cy,cm,dc,dw,d1,d2,d3,d4]∧db A B b.h9 b1 cq cV dn∧db A B b.im bb bU cP c7∧db A B b.hx cy cm dc dw∧db A B b.aI d1 d2 d3 d4
section
variable {A B fi B' n m:Nat}{x y z:Rat}{a b c d a8 a4 bj bK e f g i aZ gj g0 dt gR jd l1 pK wL Bh He Hf:V}{p q:Int}
theorem eF{l:List V}(h:db A B x a b c d)(Z:l.all atom=true):(a::b::c::d::l).all atom=true:=j8 h.atoms Z
theorem aqN{p:Int}(h:db p.natAbs (Int.toNat 1) ((p:Rat) / ((1:Int):Rat)) a b c d)(al: -1000<=p∧p<=1000):db 1000 1 (p:Rat) a b c d:=
 h.to (by rw[show ((1:Int):Rat)=1 from rfl];grind) ⟨by show p.natAbs<=1000;omega,cg _⟩
theorem afs{v:V}{c5:List (Int×Int)}(ad:fY 2 l7 c5 v)(aR:0<c5.length)(Z:c5.length<=100)(vZ:∀P,P∈c5-> -1000<=P.1∧P.1<=1000∧ -1000<=P.2∧P.2<=1000)
  (J:db A B x a b c d) (U:db A B y e f g i) (v1:vw gR jd l1 pK) (v2:vw wL Bh He Hf) (fV:vw a8 a4 bj bK) (fH:vw aZ gj g0 dt) (gW:A<100000:=by omega) (fE:B<1000:=by omega):
  cI 89 [v,.agg [a,b,c,d,e,f,g,i],.agg [gR,jd,l1,pK,wL,Bh,He,Hf],.agg [a8,a4,bj,bK,aZ,gj,g0,dt],.int .i64 0]
   (mD (A*1+1000*B) (B*1) ⟨x+(kg (c5.map (·.1)):Rat),y+(kg (c5.map (·.2)):Rat),x+(dk (c5.map (·.1)):Rat),y+(dk (c5.map (·.2)):Rat)⟩):=⟨λs ae au=>
 (V0 (cv aS)).ee 3 (by
  show aV _ (I9 a9 3 v (.agg [a,b,c,d,e,f,g,i]) (.agg [gR,jd,l1,pK,wL,Bh,He,Hf]) (.agg [a8,a4,bj,bK,aZ,gj,g0,dt]) (.int .i64 0) s);unfold I9;simp only[cw];have h:=aX.nil ae au;have r:=h.bX;have h:=h.W4;have r:=h.bX;have aB:([a,b,c,d,e,f,g,i]:List V).all atom=true:=eF J (eF U rfl);have aT:([gR,jd,l1,pK,wL,Bh,He,Hf]:List V).all atom=true:=eF v1 (eF v2 rfl);have bp:([a8,a4,bj,bK,aZ,gj,g0,dt]:List V).all atom=true:=eF fV (eF fH rfl);have hlen:=ad.len;have qD:IntKind.i64.wrap (0+1)=1:=rfl;have uX:IntKind.i64.wrap (1+1)=2:=rfl;have ey: ¬(c5.length:Int)=0:=D;have bC:=ar @hlen (ar @Lz (ar @qD @uX));repeat' first
   |refine cO ?_
   |refine mL h λ_ _ _ h r=>?_
   |refine cf h λ_ _ h r=>?_
   |refine Ct ?_
   |refine c9 h cj (λ_ h r=>?_)
   |refine p0 h (TW (w:=449) acv ad aR Z) ⟨h.rO eB,trivial⟩ (λ_ ⟨P,cQ,e,eO⟩=>?_);subst e;have Y:=vZ P cQ
   |refine p0 h (TZ (w:=449) acv ad aR Z) ⟨h.rO eB,trivial⟩ (λ_ ⟨eR,tg,e,z1⟩=>?_);subst e;have ft:=vZ eR tg
   |refine p0 h (TW (w:=451) acw ad aR Z) ⟨h.rO eB,trivial⟩ (λ_ ⟨R,pn,e,jI⟩=>?_);subst e;have Y:=vZ R pn
   |refine p0 h (TZ (w:=451) acw ad aR Z) ⟨h.rO eB,trivial⟩ (λ_ ⟨uf,PQ,e,ak4⟩=>?_);subst e;have ft:=vZ uf PQ
   |refine lq h (Nd c3) (λ_ e=>?_);subst e
   |refine akT h (aeH c3 c3 c3) λ_ _ _ _ _ _ _ _ dm fg=>?_
   |refine fN h cj (λ_ _ h r=>?_) (hx:=dB (db.atoms c3))
   |refine lq h Ue (λ_ e=>?_);subst e
   |refine lq h Uf (λ_ e=>?_);subst e
   |refine lq h (Nf c3) (λ_ e=>?_);subst e
   |refine eN h (M9 (k:=1)) λ_ _ _ _ fy=>?_;replace fy:=aqN fy D
   |refine eN h (x9 c3 c3 D D) λ_ _ _ _ _=>?_
   |refine c9 h cj (λ_ h r=>?_) (hx:=dB (eF c3 (eF c3 (eF c3 (eF c3 rfl)))))
  refine dh h ae (eF c3 (eF c3 (eF c3 (eF c3 rfl)))) ⟨_,_,_,_,_,_,_,_,_,_,_,_,_,_,_,_,rfl,?_,?_,?_,?_⟩;show db _ _ (x+(kg (c5.map (·.1)):Rat)) _ _ _ _;rw[<-eO];assumption;show db _ _ (y+(kg (c5.map (·.2)):Rat)) _ _ _ _;rw[<-jI];assumption;show db _ _ (x+(dk (c5.map (·.1)):Rat)) _ _ _ _;rw[<-z1];assumption;show db _ _ (y+(dk (c5.map (·.2)):Rat)) _ _ _ _;rw[<-ak4];assumption) D,by
 have pz:a2 v=true:=(let ⟨_,h,_⟩:=ad;h.a2);have aB:a2 (.agg [a,b,c,d,e,f,g,i])=true:=eF J (eF U rfl);have aT:a2 (.agg [gR,jd,l1,pK,wL,Bh,He,Hf])=true:=eF v1 (eF v2 rfl);have bp:a2 (.agg [a8,a4,bj,bK,aZ,gj,g0,dt])=true:=eF fV (eF fH rfl);simp[pz,aB,aT,bp];rfl⟩
end
end
section
def ag4(P eR Ou:V->V->V->V->Prop)(v:V):Prop:= ∃a b c d a8 a4 bj bK e f g i,v=.da [.agg [a,b,c,d],.agg [a8,a4,bj,bK],.agg [e,f,g,i]]∧P a b c d∧eR a8 a4 bj bK∧Ou e f g i
section
variable {ao s:S}{L cu:List b2}{Q:ax->Prop}
theorem akI{P:V->Prop}{u v w:V}(h:aX ao s L)(ae:ao.ag=ao.n)(hu:ep u=true)(ad:ep v=true)(hw:ep w=true)(al:P (.da [u,v,w])):aV (eE ao P) (bB ao s [some u,some v,some w]):=
 ⟨_,al,aj2 (by show (ep u && (ep v && (ep w && true)))=true;rw[hu,ad,hw];rfl) D h.loc.eK⟩
end
def xL(q:List Rat)(ek:List oD):Rat:=ek.foldl (λa c=>a+q.getD c.nG 0*c.s) 0
attribute [local irreducible] jj bZ dp aF gZ cJ et c6 e9 eT aW aw cT bB e5 fD ef gv fl eV fe aV
theorem nD.a2{m:kl}{v:V}(h:nD m v):a2 v=true:=by
 obtain ⟨d,p,r,k,rfl,J,U,aj,aH⟩:=h;show (atom d && (atom p && (atom r && (atom k && true))))=true;rw[J.atom,U.atom,aj.atom,aH.atom];rfl
theorem fY.A{α:Type}{R:α->List V->Prop}{z:Nat}{xs:List α}{v:V}(h:fY z R xs v):X.a2 v=true:=let ⟨_,h,_⟩:=h;h.a2
theorem aqo(i:Nat):i*6 ^ i*(2*3)+2*3*6 ^ i=(i+1)*6 ^ (i+1)∧6 ^ i*(2*3)=6 ^ (i+1):=by
 rw[Nat.pow_succ];generalize 6 ^ i=u;have:i*(u*6)=i*u*6:=(Nat.mul_assoc ..).symm;rw[Nat.add_mul,this];exact ⟨D,rfl⟩
theorem acx{i:Nat}(h:i<=3):6 ^ i<=216∧i*6 ^ i<=648:=by
 rcases (show i=0∨i=1∨i=2∨i=3 by omega) with rfl|rfl|rfl|rfl<;>decide
theorem aeI{m:kl}{v w:V}{q:List Rat}(hm:nD m v)(a7:fY 4 (kE 3 3) q w){i:Nat}{P:gT}(cQ:m.parts[i]? =some P)(yI:P.ek.length<=3)(th:∀c,c∈P.ek->c.nG<q.length):
  cI 143 [v,w,.int .i64 i] (ag4 (db 648 216 (rL q P.ek)) (db 648 216 (rM q P.ek)) (db 648 216 (xL q P.ek))):=⟨λs ae au=>
 (UT (cv aS)).ee 1000001 (by
  show aV _ (HX a9 1000001 v w (.int .i64 i) s);unfold HX;simp only[cw];have h:=aX.nil ae au;have r:=h.bX;generalize eO:1000001=F;obtain ⟨d,p,r',k',rfl,J,U,aj,aH⟩:=hm;have hi:i<m.parts.length:=(nX.1 cQ).1;obtain ⟨eR,c,rest,aC,ba,_,_,cd⟩:=U.c1 (i:=(i:Int)) D D;rw[dZ,cQ]at aC;cases aC;obtain ⟨sp,fA,gC,gx,g4,gh,gQ,cD,jD,kq,fQ,bM,jB,hL,bb,bU,cP,c7,rfl,dj,dL,eH,e0,mK⟩:=ba;have cd:=cd .i64;refine oU (by rw[gf]) ?_;refine cf h λhg _ h r=>?_;refine cf h λcM _ h r=>?_;refine cf h λB0 _ h r=>?_;refine cf h λbs _ h r=>?_;have hlen:=e0.len;have bC:=ar @cd (ar @hJ @hlen);repeat' first
   |refine cO ?_
   |refine hO (λk vs t=> ∃(j:Nat) (x y z:Rat) (b1 cq cV dn bb bU cP c7 cy cm dc dw:V),vs=[.int .i64 j,.int .i64 P.ek.length,kq,w,.ptr cM 0,.ptr B0 0,.ptr bs 0]∧aX s t [.cM bs [cy,cm,dc,dw] 45,.cM B0 [bb,bU,cP,c7] 45,.cM cM [b1,cq,cV,dn] 45]∧
     db (j*6 ^ j) (6 ^ j) x b1 cq cV dn∧db (j*6 ^ j) (6 ^ j) y bb bU cP c7∧db (j*6 ^ j) (6 ^ j) z cy cm dc dw∧x=rL q (P.ek.take j)∧y=rM q (P.ek.take j)∧z=xL q (P.ek.take j)∧j+k=P.ek.length) P.ek.length ⟨0,0,0,0,_,_,_,_,_,_,_,_,_,_,_,_,rfl,h.sub jq,ns.mono D D,ns.mono D D,ns.mono D D,rfl,rfl,rfl,D⟩ D ?_
  rintro a3 k _ t ⟨j,x,y,z,b1,cq,cV,dn,bb,bU,cP,c7,cy,cm,dc,dw,rfl,h,cL,cS,ds,hx,aI,aY,mN⟩ cR;have r:=h.bX;by_cases aG:j<P.ek.length
  ·obtain ⟨C,jS,lC,de,ej,_,_,dy⟩:=e0.c1 (i:=(j:Int)) D D;rw[dZ]at de;obtain ⟨d1,d2,d3,d4,aC,ba,cd,ff,f1,f2,f3,f4,rfl,ed,gu,k7⟩:=ej;have dy:=dy .i64;have ZB:=th C (hR de);obtain ⟨qL,aqA,qr,fV,fH,_,_,fa⟩:=a7.c1 (i:=(C.nG:Int)) D D;obtain ⟨bk,cn,dM,eU,rfl,fH⟩:=fH;have fa:=fa .i64;rw[dZ]at fV;have uV:q.getD C.nG 0=qL:=by rw[ir,fV];rfl
   have lz:=acx (i:=j) D;have rP:=aqo j;have s1:([.int .i64 C.nG,d1,d2,d3,d4,aC,ba,cd,ff,f1,f2,f3,f4]:List V).all bL=true:=uj rfl (dB (j8 ed.atoms (j8 gu.atoms k7.atoms)));have dR:=Bz ed fH aS aS;have dF:=Bz gu fH aS aS;have k6:=Bz k7 fH aS aS;have dm:=λ{a b c d:V} (h:db (2*3) (2*3) (C.x*qL) a b c d)=>x9 cL h D D;have fg:=λ{a b c d:V} (h:db (2*3) (2*3) (C.y*qL) a b c d)=>x9 cS h D D;have fy:=λ{a b c d:V} (h:db (2*3) (2*3) (C.s*qL) a b c d)=>x9 ds h D D;have lP:rL q (P.ek.take (j+1))=x+C.x*qL:=by unfold rL;rw[Cn _ _ de,uV,hx,Rat.mul_comm];rfl
   have QK:rM q (P.ek.take (j+1))=y+C.y*qL:=by unfold rM;rw[Cn _ _ de,uV,aI,Rat.mul_comm];rfl
   have QL:xL q (P.ek.take (j+1))=z+C.s*qL:=by unfold xL;rw[Cn _ _ de,uV,aY,Rat.mul_comm];rfl
   clear hx aI aY uV fV de lz;have bC:=ar @dy (ar @fa (ar @hJ @bT));repeat' first
    |refine cO ?_
    |refine cf h λ_ _ h r=>?_
    |refine c9 h cj (λ_ h r=>?_) (hx:=s1)
    |refine eN h dR λ_ _ _ _ v1=>?_
    |refine eN h (dm v1) λ_ _ _ _ v2=>?_
    |refine eN h dF λ_ _ _ _ hz=>?_
    |refine eN h (fg hz) λ_ _ _ _ v4=>?_
    |refine eN h k6 λ_ _ _ _ kT=>?_
    |refine eN h (fy kT) λ_ _ _ _ v6=>?_
    |refine fN h cj (λ_ _ h r=>?_) (hx:=dB (db.atoms c3))
    |exact cR (k - 1) _ _ D ⟨j+1,_,_,_,_,_,_,_,_,_,_,_,_,_,_,_,rfl,h.sub (M7 ..),by rw[rP.1,rP.2]at v2;exact v2,by rw[rP.1,rP.2]at v4;exact v4,by rw[rP.1,rP.2]at v6;exact v6,lP.symm,QK.symm,QL.symm,D⟩
  ·have po:j=P.ek.length:=D;subst po;rw[oB]at hx aI aY;subst hx aI aY;have lz:=acx yI;repeat' first
    |refine iG ?_
    |refine fN h cj (λ_ _ h r=>?_) (hx:=dB (db.atoms c3))
    |refine pj ?_
    |exact akI h ae cL.atoms cS.atoms ds.atoms ⟨_,_,_,_,_,_,_,_,_,_,_,_,rfl,cL.mono lz.2 lz.1,cS.mono lz.2 lz.1,ds.mono lz.2 lz.1⟩) D,by simp[hm.a2,a7.A];rfl⟩
section
variable {A B fi B' n m:Nat}{x y z w:Rat}{a b c d a8 a4 bj bK e f g i aZ gj g0 dt:V}
theorem aeJ(hx:db A B x a b c d)(aY:db A B z e f g i)(aI:db fi B' y a8 a4 bj bK)(hw:db fi B' w aZ gj g0 dt)(a5:A*B'+fi*B<1000000000)(ai:B*B'<1000000000):
  cI 144 [.agg [a,b,c,d,e,f,g,i],.agg [a8,a4,bj,bK,aZ,gj,g0,dt]] (wW (db (A*B'+fi*B) (B*B') (x+y)) (db (A*B'+fi*B) (B*B') (z+w))):=⟨λs ae au=>
 (UU (cv aS)).ee 0 (by
  show aV _ (HY a9 0 (.agg [a,b,c,d,e,f,g,i]) (.agg [a8,a4,bj,bK,aZ,gj,g0,dt]) s);unfold HY;simp only[cw];have h:=aX.nil ae au;have r:=h.bX;have aB:=x9 hx aI a5 ai;have aT:=x9 aY hw a5 ai;clear a5 ai;repeat' first
   |refine iG ?_
   |refine cf h λ_ _ h r=>?_
   |refine eN h aB λ_ _ _ _ u=>?_
   |refine eN h aT λ_ _ _ _ v=>?_
   |refine fN h cj (λ_ _ h r=>?_) (hx:=dB (eF u (eF v rfl)))
   |exact dh h ae (eF u (eF v rfl)) ⟨_,_,_,_,_,_,_,_,rfl,u,v⟩) D,df (eF hx (eF aY rfl)) (eF aI (eF hw rfl))⟩
end
theorem aft{m:kl}{v w:V}{q:List Rat}(hm:nD m v)(a7:fY 4 (kE 3 3) q w){i:Nat}{P:gT}(cQ:m.parts[i]? =some P)(yI:P.ek.length<=3)(th:∀c,c∈P.ek->c.nG<q.length):
  cI 90 [v,w,.int .i64 i] (wW (db 22248 216 (P.hx+rL q P.ek)) (db 22248 216 (P.aI+rM q P.ek))):=⟨λs ae au=>
 (V2 (cv aS)).ee 0 (by
  show aV _ (Jb a9 0 v w (.int .i64 i) s);unfold Jb;simp only[cw];have h:=aX.nil ae au;have r:=h.bX;have aB:=aeI hm a7 cQ yI th;obtain ⟨d,p,r',k',rfl,J,U,aj,aH⟩:=hm;have hi:i<m.parts.length:=(nX.1 cQ).1;obtain ⟨eR,c,rest,aC,ba,_,_,cd⟩:=U.c1 (i:=(i:Int)) D D;rw[dZ,cQ]at aC;cases aC;obtain ⟨sp,fA,gC,gx,g4,gh,gQ,cD,jD,kq,fQ,bM,jB,hL,bb,bU,cP,c7,rfl,dj,dL,eH,e0,mK⟩:=ba;have cd:=cd .i64;clear cQ yI th;have bC:=ar @cd @hJ;repeat' first
   |refine cO ?_
   |refine cf h λ_ _ h r=>?_
   |refine g7 h aB λ_ ⟨_,_,_,_,_,_,_,_,_,_,_,_,e,u,w,z⟩=>?_;subst e
   |refine c9 h cj (λ_ h r=>?_) (hx:=dB (db.atoms c3))
   |refine ta h (aeJ dL eH u w aS aS) λ_ _ _ _ _ _ _ _ o o'=>?_
   |refine fN h cj (λ_ _ h r=>?_) (hx:=dB (eF o (eF o' rfl)))
   |exact dh h ae (eF o (eF o' rfl)) ⟨_,_,_,_,_,_,_,_,rfl,o.mono aS aS,o'.mono aS aS⟩) D,by simp[hm.a2,a7.A];rfl⟩
end
section
attribute [local irreducible] jj bZ dp aF gZ cJ et c6 e9 eT aW aw cT bB e5 fD ef gv fl eV fe aV
theorem mD.a2{A B:Nat}{b:je}{v:V}(h:mD A B b v):a2 v=true:=by
 obtain ⟨b1,cq,cV,dn,bb,bU,cP,c7,cy,cm,dc,dw,d1,d2,d3,d4,rfl,J,U,aj,aH⟩:=h;exact eF J (eF U (eF aj (eF aH rfl)))
def Gf(a b:je):je:=⟨sB a.h9 b.h9,sB a.im b.im,sf a.hx b.hx,sf a.aI b.aI⟩
theorem afr{A B fi B' n m:Nat}{b a4:je}{v v':V}(J:mD A B b v)(U:mD fi B' a4 v')(gW:A<1000000000:=by omega)(fE:B<1000000000:=by omega)(p2:fi<1000000000:=by omega)(ku:B'<1000000000:=by omega)(hm:A<=n:=by omega)(kI:fi<=n:=by omega)(hk:B<=m:=by omega)(fS:B'<=m:=by omega):
  cI 87 [v,v'] (mD n m (Gf b a4)):=⟨λs ae au=>
 (VY (cv aS)).ee 3 (by
  show aV _ (I7 a9 3 v v' s);unfold I7;simp only[cw];have h:=aX.nil ae au;have r:=h.bX;obtain ⟨b1,cq,cV,dn,bb,bU,cP,c7,cy,cm,dc,dw,d1,d2,d3,d4,rfl,dj,dL,eH,e0⟩:=J;obtain ⟨aC,ba,cd,ff,f1,f2,f3,f4,i1,i2,i3,i4,e6,fo,g9,h4,rfl,de,ej,dy,jc⟩:=U;have h:=h.W4;have r:=h.bX;have aB:([b1,cq,cV,dn,bb,bU,cP,c7]:List V).all atom=true:=eF dj (eF dL rfl);have aT:([cy,cm,dc,dw,d1,d2,d3,d4]:List V).all atom=true:=eF eH (eF e0 rfl);have bp:([aC,ba,cd,ff,f1,f2,f3,f4]:List V).all atom=true:=eF de (eF ej rfl);have eh:([i1,i2,i3,i4,e6,fo,g9,h4]:List V).all atom=true:=eF dy (eF jc rfl);have qD:IntKind.i64.wrap (0+1)=1:=rfl;have uX:IntKind.i64.wrap (1+1)=2:=rfl;have dR:=λ{v:V} (ad:dz 4 v 1 [aC,ba,cd,ff])=>D7 (n:=n) (m:=m) dj ⟨_,ad,de.re rfl⟩;have dF:=λ{v:V} (ad:dz 4 v 1 [f1,f2,f3,f4])=>D7 (n:=n) (m:=m) dL ⟨_,ad,ej.re rfl⟩;have k6:=λ{v:V} (ad:dz 4 v 1 [i1,i2,i3,i4])=>D7 (n:=n) (m:=m) eH ⟨_,ad,dy.re rfl⟩;have ly:=λ{v:V} (ad:dz 4 v 1 [e6,fo,g9,h4])=>D7 (n:=n) (m:=m) e0 ⟨_,ad,jc.re rfl⟩;clear gW fE p2 ku hm kI hk fS;have bC:=ar @Lz (ar @qD @uX);repeat' first
   |refine cO ?_
   |refine cf h λ_ _ h r=>?_
   |refine Ct ?_
   |refine lq h (Nd c3) (λ_ e=>?_);subst e
   |refine lq h (Nf c3) (λ_ e=>?_);subst e
   |refine akt h (c:=cC 1 [.bool false,.af,.bool false,.af]) rfl rfl λ_ _ _ h r=>?_
   |refine zY [.agg [b1,cq,cV,dn]] [] h hG de.atoms (by simp[ep,dj.atoms]) rfl (λv ad=>dR ad) (λ_ _ _ _ ⟨_,_,_,_,_,_,_,_,e,cL,cS⟩ h r aY=>?_);subst e
   |refine zY [.agg [cy,cm,dc,dw]] [] h hG dy.atoms (by simp[ep,eH.atoms]) rfl (λv ad=>k6 ad) (λ_ _ _ _ ⟨_,_,_,_,_,_,_,_,e,ds,gw⟩ h r aY=>?_);subst e
   |refine zY [.agg [bb,bU,cP,c7]] [] h hG ej.atoms (by simp[ep,dL.atoms]) rfl (λv ad=>dF ad) (λ_ _ _ _ ⟨_,_,_,_,_,_,_,_,e,qK,GI⟩ h r aY=>?_);subst e
   |refine zY [.agg [d1,d2,d3,d4]] [] h hG jc.atoms (by simp[ep,e0.atoms]) rfl (λv ad=>ly ad) (λ_ _ _ _ ⟨_,_,_,_,_,_,_,_,e,acH,acI⟩ h r aY=>?_);subst e
   |refine fN h cj (λ_ _ h r=>?_) (hx:=dB (db.atoms c3))
   |refine c9 h cj (λ_ h r=>?_)
   |refine Cp (by repeat first|exact trivial|apply l8.q|apply l8.w) (by simp only[lZ];decide+kernel) (by simp only[lZ];repeat' first|exact trivial|refine ⟨?_,?_⟩|(rintro rfl;have:=h.ju;simp[oE,b2.hf]at this;done)|(rintro rfl;simp[b2.hf,b4]at aY;done)) ?_
   |refine c9 h cj (λ_ h r=>?_) (hx:=dB (eF c3 (eF c3 (eF c3 (eF c3 rfl)))))
   |exact dh h ae (eF cL (eF qK (eF gw (eF acI rfl)))) ⟨_,_,_,_,_,_,_,_,_,_,_,_,_,_,_,_,rfl,cL,qK,gw,acI⟩) D,df J.a2 U.a2⟩
theorem afd{m:kl}{t:oH}{v w:V}(hm:nD m v)(aO:wZ t w)(aE:m.ok)(hU:t.ok m){i:Nat}{P:gT}(cQ:m.parts[i]? =some P):
  cI 43 [v,w,.int .i64 i] (mD 300000 216 (sK m t P)):=⟨λs ae au=>
 (VD (cv aS)).ee 0 (by
  show aV _ (IK a9 0 v w (.int .i64 i) s);unfold IK;simp only[cw];have h:=aX.nil ae au;have r:=h.bX;have PN:=hR cQ;obtain ⟨dm,fg,fy,gH,ho⟩:=aE.parts P PN;have ad:=hm;obtain ⟨d,p,r',k',rfl,J,U,aj,aH⟩:=hm;obtain ⟨sF,zp,fx,rfl,t1,t2,t3⟩:=aO;have aB:=aft ad t1 cQ gH (λc aa=>by have:=ho c aa;have:=hU.q;omega);have hi:i<m.parts.length:=(nX.1 cQ).1;obtain ⟨eR,c,rest,aC,ba,_,_,cd⟩:=U.c1 (i:=(i:Int)) D D;rw[dZ,cQ]at aC;cases aC;obtain ⟨sp,fA,gC,gx,g4,gh,gQ,cD,jD,kq,fQ,bM,jB,hL,bb,bU,cP,c7,rfl,dj,dL,eH,e0,mK⟩:=ba;have cd:=cd .i64;clear cQ gH ho aE hU;have bC:=ar @cd @hJ;repeat' first
   |refine cO ?_
   |refine cf h λ_ _ h r=>?_
   |refine ta h aB λ_ _ _ _ _ _ _ _ o o'=>?_
   |refine lq h (afs dj D D fy o o' ns ns ns ns) (λ_ u=>?_);obtain ⟨_,_,_,_,_,_,_,_,_,_,_,_,_,_,_,_,rfl,de,ej,dy,jc⟩:=u
   |refine fN h cj (λ_ _ h r=>?_) (hx:=dB (eF de (eF ej (eF dy (eF jc rfl)))))
   |exact dh h ae (eF de (eF ej (eF dy (eF jc rfl)))) ⟨_,_,_,_,_,_,_,_,_,_,_,_,_,_,_,_,rfl,de.mono aS aS,ej.mono aS aS,dy.mono aS aS,jc.mono aS aS⟩) D,by
 obtain ⟨sF,zp,fx,rfl,t1,t2,t3⟩:=aO;have aT:a2 (.agg [.int .i64 t.tick,sF,zp,fx])=true:=by show (true && (atom sF && (atom zp && (atom fx && true))))=true;rw[t1.atom,t2.atom,t3.atom];rfl
 simp[hm.a2,aT];rfl⟩
theorem abx(x y:Rat):decide (sB x y=x)= !decide (y<x):=by
 unfold sB;by_cases h:y<x;rw[if_pos h,gi h];exact e3 (λe=>by rw[e]at h;exact D2 h);rw[if_neg h,e3 h];exact gi rfl
theorem YM(x y:Rat):decide (sf x y=x)= !decide (x<y):=by
 unfold sf;by_cases h:x<y;rw[if_pos h,gi h];exact e3 (λe=>by rw[e]at h;exact D2 h);rw[if_neg h,e3 h];exact gi rfl
theorem Ud{A B fi B':Nat}{b a4:je}{v v':V}(J:mD A B b v)(U:mD fi B' a4 v')(gW:A<1000000000:=by omega)(fE:B<1000000000:=by omega)(p2:fi<1000000000:=by omega)(ku:B'<1000000000:=by omega):
  cI 42 [v,v'] (lj (·=xb b a4)):=⟨λs ae au=>
 (VC (cv aS)).ee 0 (by
  show aV _ (IJ a9 0 v v' s);unfold IJ;simp only[cw];have h:=aX.nil ae au;have r:=h.bX;have aB:=afr (n:=999999999) (m:=999999999) J U;obtain ⟨b1,cq,cV,dn,bb,bU,cP,c7,cy,cm,dc,dw,d1,d2,d3,d4,rfl,dj,dL,eH,e0⟩:=J;obtain ⟨aC,ba,cd,ff,f1,f2,f3,f4,i1,i2,i3,i4,e6,fo,g9,h4,rfl,de,ej,dy,jc⟩:=U;repeat' first
   |refine iG ?_
   |refine cf h λ_ _ h r=>?_
   |refine g7 h aB (λ_ u=>?_);obtain ⟨_,_,_,_,_,_,_,_,_,_,_,_,_,_,_,_,rfl,fV,fH,fa,gY⟩:=u
   |refine c9 h cj (λ_ h r=>?_) (hx:=dB (eF fV (eF fH (eF fa (eF gY rfl)))))
  have cL:=Hw fV dj;have cS:=Hw fH dL;have ds:=Hw fa eH;have gw:=Hw gY e0;rw[show (Gf b a4).h9=sB b.h9 a4.h9 from rfl,abx]at cL;rw[show (Gf b a4).im=sB b.im a4.im from rfl,abx]at cS;rw[show (Gf b a4).hx=sf b.hx a4.hx from rfl,YM]at ds;rw[show (Gf b a4).aI=sf b.aI a4.aI from rfl,YM]at gw;unfold xb;generalize (!decide (a4.h9<b.h9))=e1 at*;generalize (!decide (a4.im<b.im))=ei at*;generalize (!decide (b.hx<a4.hx))=fG at*;generalize (!decide (b.aI<a4.aI))=iB at*;cases e1<;>cases ei<;>cases fG<;>cases iB;all_goals
   repeat' first
    |refine iG ?_
    |refine iI h cL (λ_ e=>?_);subst e
    |refine iI h cS (λ_ e=>?_);subst e
    |refine iI h ds (λ_ e=>?_);subst e
    |refine iI h gw (λ_ e=>?_);subst e
    |exact dh h ae rfl ⟨_,rfl,rfl⟩) D,df J.a2 U.a2⟩
end
section
def hE(x:Int×Nat):Rat:=mkRat x.1 x.2
def ht(b:hq):je:=⟨hE b.1,hE b.2.1,hE b.2.2.1,hE b.2.2.2⟩
theorem aq1{x:Int×Nat}(h:sX x.1 x.2):hE x=AW x.1 x.2 h:=by
 unfold hE AW;rw[Rat.mk_eq_mkRat]
theorem wC.fh{x:Int×Nat}{a b c d:V}(h:wC x)(aa:jf x.1 x.2 (.agg [a,b,c,d])):db 999999999 999999999 (hE x) a b c d:=by
 rw[aq1 h.1];exact ⟨aa,by have:=h.2.1;show x.1.natAbs<=_;omega,by have:=h.2.2;show x.2<=_;omega⟩
def wX(b:je)(cs:List V):Prop:=mD 999999999 999999999 b (.agg cs)
theorem sW.vB{b:hq}{cs:List V}(h:sW b cs)(aO:b.ti):wX (ht b) cs:=by
 obtain ⟨b1,cq,cV,dn,bb,bU,cP,c7,cy,cm,dc,dw,d1,d2,d3,d4,rfl,J,U,aj,aH⟩:=h;exact ⟨_,_,_,_,_,_,_,_,_,_,_,_,_,_,_,_,rfl,aO.1.fh J,aO.2.1.fh U,aO.2.2.1.fh aj,aO.2.2.2.fh aH⟩
theorem hr.re{bs:List hq}{cs:List V}(h:hr bs cs)(aO:∀b,b∈bs->b.ti):eX 16 wX (bs.map ht) cs:=by
 induction h with
 |nil=>exact .nil
 |cons b c bs cs h ae a3=>exact .cons _ _ _ _ (h.vB (aO b (j5 ..))) h.atoms.2 h.atoms.1 (a3 λb Y=>aO b (lG _ Y))
theorem gU.De{p:ev}{e:V}{cs:List V}(he:dz 16 e p.boxes.length cs)(E:hr p.boxes cs)(al:p.ti):fY 16 wX (p.boxes.map ht) e:=⟨cs,by rw[qY];exact he,E.re al.boxes⟩
theorem ajI{z:Nat}{v:V}{l:Nat}{cs:List V}(ad:dz z v l cs):(v=.af∧bH .eql (aJ.get types 53) v .af=some (.bool true))∨bH .eql (aJ.get types 53) v .af=some (.bool false):=by
 cases ad with
 |nil=>exact .inl ⟨rfl,rfl⟩
 |mk=>exact .inr rfl
theorem dz.un{z l:Nat}{cs:List V}(h:dz z .af l cs):l=0∧cs=[]:=by cases h;exact ⟨rfl,rfl⟩
section
variable {ao s:S}{L cu:List b2}{Q:ax->Prop}
theorem aX.c0{v:V}{e z l:Nat}{cs:List V}(h:aX ao s L)(u:b2.ca v e z l cs∈L):bL v=true:=cl.bL (h.ok _ u)
theorem ari{a b c:Int}{d x:V}(h:bL d=true)(h':bL x=true):([.int .i64 a,.int .i64 b,.int .i64 c,d,x]:List V).all bL=true:=by
 show (true && (true && (true && (bL d && (bL x && true)))))=true;rw[h,h'];rfl
theorem akA{P:V->Prop}{a b c k:Int}{d x:V}{bk cn aC ba:Nat}{cy cm:List V}(h:aX ao s L)(ae:ao.ag=ao.n)(de:b2.ca d aC 1 bk cy∈L)(ej:b2.ca x ba 16 cn cm∈L)(b1:cy.all atom=true)(cq:cm.all atom=true)
  (al:∀bK x',dz 1 bK bk cy->dz 16 x' cn cm->P (.da [.agg [.int .i64 a,.int .i64 b,.int .i64 c,bK,x'],.int .i64 k])):aV (eE ao P) (bB ao s [some (.agg [.int .i64 a,.int .i64 b,.int .i64 c,d,x]),some (.int .i64 k)]):=by
 have dm:cl ao s aC 1 d bk cy:=h.ok _ de;have fg:cl ao s ba 16 x cn cm:=h.ok _ ej;obtain ⟨bK,bb,J,U,rfl⟩:=dm.gl b1;obtain ⟨x',bU,aj,aH,rfl⟩:=fg.gl cq;refine ⟨_,al bK x' U aH,E6 (l:=[.agg [.int .i64 a,.int .i64 b,.int .i64 c,d,x],.int .i64 k]) (.cons _ _ _ _ _ _ (.agg _ _ _ (.cons _ _ _ _ _ _ (.at _ rfl) (.cons _ _ _ _ _ _ (.at _ rfl) (.cons _ _ _ _ _ _ (.at _ rfl) (.cons _ _ _ _ _ _ J (.cons _ _ _ _ _ _ aj .nil)))))) (.cons _ _ _ _ _ _ (.one _ _ _ (.at _ rfl)) .nil)) (by show ¬(2:Nat)=1;decide) ae h.loc (λc aa=>?_)⟩;simp only[hp,hd]at aa;exact (mB.1 aa).elim (λh=>(dm.lo h).1) (λh=>(fg.lo h).1)
end
attribute [local irreducible] jj bZ dp aF gZ cJ et c6 e9 eT aW aw cT bB e5 fD ef gv fl eV fe aV
theorem aff{v:V}{n:Nat}{cs:List V}(ad:dz 16 v n cs)(aa:cs.all atom=true)(a5:n<=1000):wV 46 [v] 108 16 (λl c=>l=n∧c=cs):=⟨λs ae au=>
 (VJ (cv aS)).Kb 0 (by
  show aV _ (IS a9 0 v s);unfold IS;simp only[cw];have h:=aX.nil ae au;have r:=h.bX;have Y:DM.bytes=256:=rfl;rcases ajI ad with ⟨rfl,e⟩|e
  ·obtain ⟨rfl,rfl⟩:=ad.un;have bC:= @e;repeat' first
    |refine cO ?_
   unfold aV;exact ⟨0,[],⟨rfl,rfl⟩,rfl,Cl ae h.loc .nil rfl⟩
  ·have bC:= @e;repeat' first
    |refine cO ?_
    |refine oT h (l:=[]) rfl rfl λ_ _ h r=>?_
    |refine vN h hG (.ew _ _ _ ad) (dB aa) rfl aS (by rw[Y];omega) λ_ _ h r=>?_
    |exact PG h ae (.head _) aa ⟨gD _,rfl⟩) D,by show (ep v && true)=true;rw[ad.ep];rfl⟩
def rf(p:ev)(n:Int):ev×Int:=if p.formed=false then (⟨0,0,0,[],[]⟩,1) else if n<p.c8∨p.dH<n then (⟨0,0,0,[],[]⟩,5) else ({p with dH:=n},0)
def Wu(c:ev×Int)(v:V):Prop:= ∃a,v=.da [a,.int .i64 c.2]∧gU c.1 a
theorem Dy:gU ⟨0,0,0,[],[]⟩ (.agg [.int .i64 0,.int .i64 0,.int .i64 0,.af,.af]):=⟨_,_,[],rfl,.nil _,.nil,.nil⟩
theorem aeG{p:ev}{a:V}{k:Int}(av:gU p a)(al:p.ti):cI 14 [a,.int .i64 k] (Wu (rf p k)):=⟨λs ae au=>
 (UP (cv aS)).ee 0 (by
  show aV _ (HT a9 0 a (.int .i64 k) s);unfold HT;simp only[cw];have h:=aX.nil ae au;have r:=h.bX;have aB:cI 41 [a] (lj (·=p.formed)):=pC (Xu av al.ok) (by simp[av.a2]) ⟨_,rfl,rfl⟩;have jZ:=av;obtain ⟨d,e,cs,rfl,ai,he,E⟩:=av;have iA:=al.iA;have hW:=al.hW;have aT:wV 45 [d] 3 1 (λl c=>l=p.parts.length∧c=fp p.parts):=⟨λs ae _=>⟨_,_,⟨rfl,rfl⟩,by simp,ait ai D s ae⟩,by show (ep d && true)=true;rw[ai.ep];rfl⟩;have bp:=aff he E.atoms.1 D;have fO:([.int .i64 p.host,.int .i64 p.c8,.int .i64 p.dH,d,e]:List V).all atom=true:=u9 ai he;have yN:=dB fO;cases aM:p.formed
  ·rw[aM]at aB;unfold rf;rw[if_pos aM];repeat' first
    |refine iG ?_
    |refine cf h λ_ _ h r=>?_
    |refine iI h aB (λ_ e=>?_);subst e
    |refine c9 h cj (λ_ h r=>?_)
    |exact nJ h ae rfl rfl ⟨_,rfl,Dy⟩
  ·rw[aM]at aB;unfold rf;rw[if_neg (by rw[aM];exact Bool.noConfusion)];by_cases J:k<p.c8
   ·rw[if_pos (.inl J)];repeat' first
     |refine iG ?_
     |refine cf h λ_ _ h r=>?_
     |refine iI h aB (λ_ e=>?_);subst e
     |refine c9 h cj (λ_ h r=>?_)
     |exact nJ h ae rfl rfl ⟨_,rfl,Dy⟩
   ·by_cases U:p.dH<k
    ·rw[if_pos (.inr U)];repeat' first
      |refine iG ?_
      |refine cf h λ_ _ h r=>?_
      |refine iI h aB (λ_ e=>?_);subst e
      |refine c9 h cj (λ_ h r=>?_)
      |exact nJ h ae rfl rfl ⟨_,rfl,Dy⟩
    ·rw[if_neg D];repeat' first
      |refine iG ?_
      |refine cf h λ_ _ h r=>?_
      |refine iI h aB (λ_ e=>?_);subst e
      |refine Fe h aT (λ_ _ _ _ _ _ ⟨aC,ba⟩ h r=>?_);subst aC ba;have w:=h.c0 (.head _)
      |refine Fe h bp (λ_ _ _ _ _ _ ⟨aC,ba⟩ h r=>?_);subst aC ba;have w:=h.c0 (.head _)
      |refine p1 h cj rfl (λ_ h r=>?_)
      |refine Fi h cj (h.c0 eB) (λ_ _ h r=>?_)
      |refine pj ?_
      |refine c9 h cj (λ_ h r=>?_) (hx:=ari c3 c3)
      |exact akA h ae eB eB (lR _ _) E.atoms.1 λbK x' J U=>⟨_,rfl,_,_,_,rfl,J,U,E⟩) D,by show (a2 a && (true && true))=true;rw[av.a2];rfl⟩
end
section
theorem Ke:(∀(p:Prop) [Decidable p] (s:S) (o:mX),p->ga (some (.bool (decide p),true)) s o=o)∧(∀(p:Prop) [Decidable p] (s:S) (o:mX),¬p->ga (some (.bool (decide p),false)) s o=o)∧
  (∀(p:Prop) [Decidable p] (s:S) (o:mX),p->ga (some (.bool (decide p),false)) s o=some (.da [],s,eM (some []) s.n s.n []))∧(∀(p:Prop) [Decidable p] (s:S) (o:mX),¬p->ga (some (.bool (decide p),true)) s o=some (.da [],s,eM (some []) s.n s.n [])):=by
 refine ⟨λp _ s o h=>?_,λp _ s o h=>?_,λp _ s o h=>?_,λp _ s o h=>?_⟩;rw[gi h];rfl;rw[e3 h];rfl;rw[gi h];rfl;rw[e3 h];rfl
inductive mF:List ct->Prop
 |nil:mF []
 |cons (t:Reach) (lo hi:Nat) (l:List ct) (h:mF l):mF (eM t lo hi []::l)
theorem mF.lX{l:List ct}(h:mF l):∀c,c∈lX l->c=0∨c=4:=by
 induction h with
 |nil=>exact λ_ h=>by cases h
 |cons t lo hi l _ a3=>
  intro c aa;rcases hc.1 aa with rfl|aa
  show sc (eM t lo hi [])=0∨_;cases t with
  |none=>exact .inr rfl
  |some t=>
   cases t with
   |nil=>
    show (bif Nat.beq lo hi then 0 else 4)=0∨(bif Nat.beq lo hi then 0 else 4)=4;cases Nat.beq lo hi;exact .inr rfl;exact .inl rfl
   |cons b t=>exact .inr rfl
  exact a3 c aa
theorem yC{Q:ax->Prop}{m:List Nat}{l:List ct}{k:ax}(h:mF l)(h':aV Q k):aV Q (gZ (fe m l) k):=by
 refine Fk (mZ.of ?_) h';unfold Cd;rw[fj];rintro ⟨c,i⟩ aa;have:=nx.1 aa;rcases h.lX c (hR this) with rfl|rfl<;>rfl
theorem all_true{f:Nat->Bool}{n:Nat}(h:∀i,i<n->f i=true):(List.range n).all f=true:=by
 rw[fj];exact λi hi=>h i (Bn.1 hi)
theorem all_false{f:Nat->Bool}{n i:Nat}(hi:i<n)(h:f i=false):(List.range n).all f=false:=by
 rw[List.all_eq_false];exact ⟨i,Bn.2 hi,by rw[h];exact Bool.noConfusion⟩
theorem lt_succ{P:Nat->Prop}{i:Nat}(h:∀j,j<i->P j)(h':P i):∀j,j<i+1->P j:=λj aG=>by
 rcases Nat.lt_succ_iff_lt_or_eq.1 aG with aG|rfl
 exact h j aG;exact h'
theorem aaL{l:List Int}(h:rE l=true){i:Nat}(hi:i<l.length):0<=l.getD i 0∧l.getD i 0<=l.getD (l.length - 1) 0:=by
 unfold rE at h;rw[fj]at h;have dE:∀j,j<l.length->ng l j=true:=λj aG=>h j (Bn.2 aG);have aR:=dE i hi;unfold ng at aR;simp only[dU,decide_eq_true_eq]at aR;refine ⟨aR.1,?_⟩;have:∀k,i+k<l.length->l.getD i 0<=l.getD (i+k) 0:=λk=>by
  induction k with
  |zero=>exact λ_=>vn _
  |succ k a3=>
   intro hk;have J:=a3 D;have U:=dE (i+(k+1)) hk;unfold ng at U;simp only[dU,r1,decide_eq_true_eq]at U;rcases U.2 with aj|aj
   omega;rw[show i+(k+1) - 1=i+k by omega]at aj;omega
 have:=this (l.length - 1 - i) D
 rwa [show i+(l.length - 1 - i)=l.length - 1 by omega]at this
theorem ev.Yn{p:ev}(h:p.formed=true):p.parts.length=p.boxes.length∧p.c8<=p.dH∧rE p.parts=true:=by
 unfold ev.formed at h;simpa only[dU,decide_eq_true_eq] using h
theorem wZ.A{t:oH}{v:V}(h:wZ t v):X.a2 v=true:=by
 obtain ⟨q,w,h',rfl,t1,t2,t3⟩:=h;show (true && (atom q && (atom w && (atom h' && true))))=true;rw[t1.atom,t2.atom,t3.atom];rfl
def ah3:je:=⟨0,0,0,0⟩
def Mc:gT:=⟨[],0,0,[]⟩
def u6(m:kl)(t:oH)(p:ev)(i:Nat):Bool:=
 !(t.here.getD (p.parts.getD i 0).toNat false) || xb ((p.boxes.map ht).getD i ah3) (sK m t (m.parts.getD (p.parts.getD i 0).toNat Mc))
def rH(m:kl)(t:oH)(p:ev):Bool:=
 p.formed && ((List.range p.parts.length).all (λi=>decide (p.parts.getD i 0<m.parts.length)) && (decide (t.tick<p.c8) || (decide (p.dH<t.tick) || (List.range p.parts.length).all (u6 m t p))))
theorem Kl{α:Type}{l:List α}{i:Nat}{x d:α}(h:l[i]? =some x):l.getD i d=x:=by rw[ir,h];rfl
theorem acq{m:kl}{t:oH}{p:ev}{i:Nat}(h:t.here[(p.parts.getD i 0).toNat]? =some false):u6 m t p i=true:=by
 unfold u6;rw[Kl h];rfl
theorem acp{m:kl}{t:oH}{p:ev}{i:Nat}{b:je}{P:gT}(h:t.here[(p.parts.getD i 0).toNat]? =some true)(Y:(p.boxes.map ht)[i]? =some b)(cQ:m.parts[(p.parts.getD i 0).toNat]? =some P):u6 m t p i=xb b (sK m t P):=by
 unfold u6;rw[Kl h,Kl Y,Kl cQ];rfl
attribute [local irreducible] jj bZ dp aF gZ cJ et c6 e9 eT aW aw cT bB e5 fD ef gv fl eV fe aV
theorem aeL{p:ev}{a:V}{k:Int}(av:gU p a)(al:p.ti):cI 15 [a,.int .i64 k] (Wu (rf p k)):=⟨λs ae au=>
 (afV (cv aS)).ee 0 (by
  show aV _ (ND a9 0 a (.int .i64 k) s);unfold ND;simp only[cw];have h:=aX.nil ae au;have r:=h.bX;have iA:=al.iA;have hW:=al.hW;have aB:cI 18 [a] (lj (·=p.formed)):=pC (OQ av D D) (by simp[av.a2]) ⟨_,rfl,rfl⟩;have jZ:=av;obtain ⟨d,e,cs,rfl,ai,he,E⟩:=av;have fO:([.int .i64 p.host,.int .i64 p.c8,.int .i64 p.dH,d,e]:List V).all atom=true:=u9 ai he;have yN:=dB fO;have KP:([.int .i64 p.host,.int .i64 p.c8,.int .i64 k,d,e]:List V).all atom=true:=u9 ai he;cases aM:p.formed
  ·rw[aM]at aB;unfold rf;rw[if_pos aM];repeat' first
    |refine iG ?_
    |refine cf h λ_ _ h r=>?_
    |refine iI h aB (λ_ e=>?_);subst e
    |refine c9 h cj (λ_ h r=>?_)
    |exact nJ h ae rfl rfl ⟨_,rfl,Dy⟩
  ·rw[aM]at aB;unfold rf;rw[if_neg (by rw[aM];exact Bool.noConfusion)];by_cases J:k<p.c8
   ·rw[if_pos (.inl J)];repeat' first
     |refine iG ?_
     |refine cf h λ_ _ h r=>?_
     |refine iI h aB (λ_ e=>?_);subst e
     |refine c9 h cj (λ_ h r=>?_)
     |exact nJ h ae rfl rfl ⟨_,rfl,Dy⟩
   ·by_cases U:p.dH<k
    ·rw[if_pos (.inr U)];repeat' first
      |refine iG ?_
      |refine cf h λ_ _ h r=>?_
      |refine iI h aB (λ_ e=>?_);subst e
      |refine c9 h cj (λ_ h r=>?_)
      |exact nJ h ae rfl rfl ⟨_,rfl,Dy⟩
    ·rw[if_neg D];repeat' first
      |refine iG ?_
      |refine cf h λ_ _ h r=>?_
      |refine iI h aB (λ_ e=>?_);subst e
      |refine p1 h cj rfl (λ_ h r=>?_)
      |refine c9 h cj (λ_ h r=>?_) (hx:=dB KP)
      |exact nJ h ae KP rfl ⟨_,rfl,_,_,_,rfl,ai,he,E⟩) D,by show (a2 a && (true && true))=true;rw[av.a2];rfl⟩
theorem aex{m:kl}{t:oH}{v w:V}(hm:nD m v)(aO:wZ t w)(aE:m.ok)(hU:t.ok m){p:ev}{a:V}(av:gU p a)(al:p.ti):cI 11 [v,w,a] (lj (·=rH m t p)):=⟨λs ae au=>
 (Uu (cv aS)).ee 1000001 (by
  show aV _ (Hy a9 1000001 v w a s);unfold Hy;simp only[cw];have h:=aX.nil ae au;have r:=h.bX;generalize eO:1000001=F;have iA:=al.iA;have hW:=al.hW;have aB:cI 41 [a] (lj (·=p.formed)):=pC (Xu av al.ok) (by simp[av.a2]) ⟨_,rfl,rfl⟩;have aoA:=λ{i:Nat} {P:gT} (cQ:m.parts[i]? =some P)=>afd hm aO aE hU cQ;obtain ⟨d,e,cs,rfl,ai,he,E⟩:=av;have FJ:=gU.De he E al;have fF:=ai.len;obtain ⟨wh,mp,wi,mk,rfl,Am,vX,Z4,Z5⟩:=hm;obtain ⟨wD,sM,sL,rfl,ank,F0,Q8⟩:=aO;have gF:=vX.len;have kh:=aE.kh;refine oU (by rw[gf]) ?_;refine cf h λhg _ h r=>?_;refine oU (by rw[gf]) ?_;refine cf h λbs _ h r=>?_;refine oU (by rw[gf]) ?_;refine cf h λck _ h r=>?_;cases aM:p.formed
  ·rw[aM]at aB;have hk:rH m t p=false:=by unfold rH;rw[aM];rfl
   rw[hk];have bC:=ar @Ke (ar @nv (ar @lg @j6));repeat' first
    |refine cO ?_
     |refine yC (by repeat first|exact mF.nil|apply mF.cons) ?_
    |refine Kc h aB (λ_ e=>?_);subst e
    |exact dh h ae rfl ⟨_,rfl,rfl⟩
  obtain ⟨f1,f2,f3⟩:=p.Yn aM;rw[aM]at aB;by_cases Z:0<p.parts.length∧m.parts.length<=p.parts.getD (p.parts.length - 1) 0
  ·obtain ⟨aR,J⟩:=Z;have hk:rH m t p=false:=by unfold rH;rw[aM,all_false (i:=p.parts.length - 1) D (e3 D)];rfl
   rw[hk];have hl:=ai.c1 (.i64) (i:=(p.parts.length:Int) - 1) D D;have kv:=λs=>hb .i64 p.parts s (n:=((p.parts.length:Int) - 1).toNat) D;rw[show ((p.parts.length:Int) - 1).toNat=p.parts.length - 1 by omega]at hl kv;have bC:=ar @fF (ar @gF (ar @hl (ar @kv (ar @Ke (ar @bT (ar @nv (ar @lg @j6)))))));repeat' first
    |refine cO ?_
     |refine yC (by repeat first|exact mF.nil|apply mF.cons) ?_
    |refine Kc h aB (λ_ e=>?_);subst e
    |exact dh h ae rfl ⟨_,rfl,rfl⟩
  have jJ:∀i,i<p.parts.length->0<=p.parts.getD i 0∧p.parts.getD i 0<m.parts.length:=λi hi=>by
   have:=aaL f3 hi;omega
  have hk:rH m t p=(decide (t.tick<p.c8) || (decide (p.dH<t.tick) || (List.range p.parts.length).all (u6 m t p))):=by
   unfold rH;rw[aM,all_true (f:=λi=>decide (p.parts.getD i 0<m.parts.length)) (λi hi=>gi (jJ i hi).2)];rfl
  rw[hk];by_cases aR:p.parts.length=0
  case' pos=>
   have bC:=ar @fF (ar @gF (ar @Ke (ar @bT (ar @nv (ar @lg @j6)))));repeat' first
    |refine cO ?_
    |refine Kc h aB (λ_ e=>?_);subst e
    |refine yC (by repeat first|exact mF.nil|apply mF.cons) ?_
  case' neg=>
   have hl:=ai.c1 (.i64) (i:=(p.parts.length:Int) - 1) D D;have kv:=λs=>hb .i64 p.parts s (n:=((p.parts.length:Int) - 1).toNat) D;rw[show ((p.parts.length:Int) - 1).toNat=p.parts.length - 1 by omega]at hl kv;have:=jJ (p.parts.length - 1) D;have bC:=ar @fF (ar @gF (ar @hl (ar @kv (ar @Ke (ar @bT (ar @nv (ar @lg @j6)))))));repeat' first
    |refine cO ?_
    |refine Kc h aB (λ_ e=>?_);subst e
    |refine yC (by repeat first|exact mF.nil|apply mF.cons) ?_
  all_goals
   clear Z aR aB;by_cases J:t.tick<p.c8
   ·rw[gi J];repeat' first
     |refine iG ?_
     |exact dh h ae rfl ⟨_,rfl,rfl⟩
   by_cases U:p.dH<t.tick
   ·rw[e3 J,gi U];repeat' first
     |refine iG ?_
     |exact dh h ae rfl ⟨_,rfl,rfl⟩
   rw[e3 J,e3 U,vm,vm];have bC:= @fF;repeat' first
    |refine cO ?_
    |refine hO (λk vs u=> ∃i:Nat,vs=[.int .i64 i,.int .i64 p.parts.length,d,.ptr ck 0,.ptr hg 0,.ptr bs 0]∧aX s u [.cM ck [.int .i64 p.host,.int .i64 p.c8,.int .i64 p.dH,d,e] 55,.cM bs [.int .i64 t.tick,wD,sM,sL] 33,.cM hg [wh,mp,wi,mk] 28]∧i+k=p.parts.length∧ ∀j,j<i->u6 m t p j=true) p.parts.length ⟨0,rfl,h,D,λj aG=>absurd aG (Nat.not_lt_zero j)⟩ D ?_
   rintro a3 k _ u ⟨i,rfl,h,na,nc⟩ cR;have r:=h.bX;by_cases hi:i<p.parts.length
   ·have hx:=ai.c1 (.i64) (i:=(i:Int)) D D;rw[dZ]at hx;have kv:=λs=>hb .i64 p.parts s hi;obtain ⟨oK,bb⟩:=jJ i hi;have dE:=hU.h;obtain ⟨Y,c,lC,aC,rfl,_,_,cd⟩:=Q8.c1 oK D;have cd:=cd .i64;obtain ⟨B,cm,bM,fV,fH,wl,Hb,fa⟩:=FJ.c1 (i:=(i:Int)) D (by rw[qY];omega);have fa:=fa .i64;have gY:∀s,bf 16 s (.fu (cm++bM))=some (.agg cm):=λs=>by rw[Db s D,l2 D]
    rw[dZ]at fV;have PM:(p.parts.getD i 0).toNat<m.parts.length:=D;have cQ:=mA PM;have aT:=aoA cQ;rw[Bp oK]at aT;cases Y
    ·have xy:=acq (m:=m) aC;have bC:=ar @hx (ar @kv (ar @hJ @cd));repeat' first
      |refine cO ?_
      |exact cR (k - 1) _ _ D ⟨i+1,by rw[bT D D];rfl,h,D,lt_succ nc xy⟩
    ·have xy:=acp aC fV cQ;generalize m.parts[(p.parts.getD i 0).toNat]=P at*;cases n7:xb B (sK m t P)
     ·have bC:=ar @hx (ar @kv (ar @hJ (ar @cd (ar @fa (ar @gY (ar @nv @lg))))));repeat' first
       |refine cO ?_
       |refine g7 h aT λ_ u=>?_
       |refine iI h (Ud fH c3) (λ_ e=>?_);rw[n7]at e;subst e
       |exact dh h ae rfl ⟨_,rfl,(all_false hi (xy.trans n7)).symm⟩
     ·have bC:=ar @hx (ar @kv (ar @hJ (ar @cd (ar @fa (ar @gY (ar @nv @j6))))));repeat' first
       |refine cO ?_
       |refine g7 h aT λ_ u=>?_
       |refine iI h (Ud fH c3) (λ_ e=>?_);rw[n7]at e;subst e
       |exact cR (k - 1) _ _ D ⟨i+1,by rw[bT D D];rfl,h,D,lt_succ nc (xy.trans n7)⟩
   ·have uL:i=p.parts.length:=D;subst uL;repeat' first
     |refine iG ?_
     |exact dh h ae rfl ⟨_,rfl,(all_true nc).symm⟩) D,by simp[hm.a2,aO.A,av.a2]⟩
end
section
def oJ:List V:=[.fn 449 [] [],.fn 450 [] [],.fn 451 [] [],.fn 452 [] []]
theorem ake{s:S}{w:V}(au:s.h.get 0=some X.kH)(hw:tD w=true):nI [.bx 0 0 2 2 2,w] s=([.fs oJ 2,w],[],s):=by
 have h:m0 s (.bx 0 0 2 2 2) (.fs oJ 2) (bif false then [0] else []):=.one _ _ _ (.bx 0 0 2 2 2 oJ oJ 204 false false au aS aS rfl rfl);have e:nI [w] s=([w],[],s):=Pv s (by simp[hw]);unfold nI;simp only[h.fq 21,cond_false,mark,e,hd]
section
variable {ao s:S}{L cu:List b2}{Q:ax->Prop}
theorem akz{K:V->S->ax}{aP st:Bool}{f:Nat}{w:V}{l:List (Nat×List V)}{P:V->Prop}(h:aX ao s L)(hw:tD w=true)(aa:sU f [.fs oJ 2,w] l P)(jI:Jf (aN s) l)(H:∀v,P v->aV Q (K v s))(hk:dT f=false:=by rfl):aV Q (bZ (cJ a9 aP st (.fn f [] []) [.bx 0 0 2 2 2,w] s) K):=by
 obtain ⟨v,ad,h'⟩:=aa.1 (aN s) rfl h.g jI;have key:cJ a9 aP st (.fn f [] []) [.bx 0 0 2 2 2,w] s=some (v,s):=by
  have Y:([.bx 0 0 2 2 2,w]:List V).any en=false:=by
   show (false || (en w || false))=false;rw[abh hw];rfl
  unfold cJ;rw[Y];simp only[hp,hd];have E:kG dT f [.bx 0 0 2 2 2,w] { s with ag:=s.n } =([.fs oJ 2,w],[], { s with ag:=s.n }):=by
   rw[s8 hk];exact ake h.g.kH hw
  rw[E];simp only[];have h':a9 f [.fs oJ 2,w] { s with ag:=s.n } =some (v,aN s):=h';rw[h'];have ai:qI aP st [] (Nat.ble s.n (aN s).ag)=true:=by
   have:Nat.ble s.n (aN s).ag=true:=by rw[eu];exact cg _
   rw[this];cases aP<;>cases st<;>rfl
  simp only[ai,least];simp only[aN];rw[ny h.loc.ag]
 rw[key,js];exact H v ad
theorem aX.xU(h:aX ao s L)(e z:Nat):aX ao s (.ca .af e z 0 []::L):=
 ⟨h.loc,λx hx=>by
  rcases hc.1 hx with rfl|hx
  exact .nil;exact h.ok x hx,⟨λ_ _ b Y=>(by cases Y),h.ju⟩,h.old,h.n3⟩
end
def DF(y:Bool)(u v:Rat):Rat:=match y with
 |false=>u
 |true=>v
def um(y:Bool)(a b:je):Bool:=decide (DF y b.hx b.aI<DF y a.h9 a.im) || decide (DF y a.hx a.aI<DF y b.h9 b.im)
theorem ahk(a b:je):(!(um false a b || um true a b))=nS a b:=by
 unfold um nS DF;generalize decide (b.hx<a.h9)=e1;generalize decide (a.hx<b.h9)=ei;generalize decide (b.aI<a.im)=fG;generalize decide (a.aI<b.im)=iB;cases e1<;>cases ei<;>cases fG<;>cases iB<;>rfl
theorem meet_comm(a b:je):nS a b=nS b a:=by
 unfold nS;generalize decide (b.hx<a.h9)=e1;generalize decide (a.hx<b.h9)=ei;generalize decide (b.aI<a.im)=fG;generalize decide (a.aI<b.im)=iB;cases e1<;>cases ei<;>cases fG<;>cases iB<;>rfl
def Ew(y:Bool):List V:=match y with
 |false=> [.fn 449 [] [],.fn 450 [] []]
 |true=> [.fn 451 [] [],.fn 452 [] []]
theorem ado(x y:Rat):decide (0<gN x y)=decide (y<x):=decide_eq_decide.2 (Mt x y)
attribute [local irreducible] jj bZ dp aF gZ cJ et c6 e9 eT aW aw cT bB e5 fD ef gv fl eV fe aV
section
variable {A B fi B':Nat}{a b:je}{B9 ux:List V}{lJ gd:Nat}{v w:V}
theorem T1(y:Bool)(J:mD A B a (.agg B9))(U:mD fi B' b (.agg ux))(gW:A<1000000000:=by omega)(fE:B<1000000000:=by omega)(p2:fi<1000000000:=by omega)(ku:B'<1000000000:=by omega):
  sU 146 [.agg (Ew y),.ptr lJ 0,.ptr gd 0] [(lJ,B9),(gd,ux)] (lj (·=um y a b)):=⟨λs ae au aE=>
 (UX (cv aS)).ee 0 (by
  show aV _ (H0 a9 0 (.agg (Ew y)) (.ptr lJ 0) (.ptr gd 0) s);unfold H0;simp only[cw];have h:=((aX.nil ae au).q7 aE.2.1.1 aE.2.1.2).q7 aE.1.1 aE.1.2;have r:=h.bX;obtain ⟨b1,cq,cV,dn,bb,bU,cP,c7,cy,cm,dc,dw,d1,d2,d3,d4,e,dj,dL,eH,e0⟩:=J;cases e;obtain ⟨aC,ba,cd,ff,f1,f2,f3,f4,i1,i2,i3,i4,e6,fo,g9,h4,e,de,ej,dy,jc⟩:=U;cases e;have aB:([b1,cq,cV,dn,bb,bU,cP,c7]:List V).all atom=true:=eF dj (eF dL rfl);have aT:([cy,cm,dc,dw,d1,d2,d3,d4]:List V).all atom=true:=eF eH (eF e0 rfl);have bp:([aC,ba,cd,ff,f1,f2,f3,f4]:List V).all atom=true:=eF de (eF ej rfl);have eh:([i1,i2,i3,i4,e6,fo,g9,h4]:List V).all atom=true:=eF dy (eF jc rfl);cases y;all_goals
   unfold um DF Ew
  ·have cL:=D8 dj dy;have cS:=D8 de eH;clear gW fE p2 ku;simp only[];cases aa:decide (b.hx<a.h9)<;>cases ai:decide (a.hx<b.h9);all_goals
    have bC:=ar @ado (ar @aa @ai);repeat' first
     |refine cO ?_
     |refine cf h λ_ _ h r=>?_
     |refine g7 h (Nd c3) (λ_ e=>?_);subst e
     |refine g7 h cL (λ_ ⟨_,e,aZ⟩=>?_);subst e aZ
     |refine g7 h cS (λ_ ⟨_,e,aZ⟩=>?_);subst e aZ
     |exact dh h ae rfl ⟨_,rfl,rfl⟩
  ·have cL:=D8 dL jc;have cS:=D8 ej e0;clear gW fE p2 ku;simp only[];cases aa:decide (b.aI<a.im)<;>cases ai:decide (a.aI<b.im);all_goals
    have bC:=ar @ado (ar @aa @ai);repeat' first
     |refine cO ?_
     |refine cf h λ_ _ h r=>?_
     |refine g7 h (Nf c3) (λ_ e=>?_);subst e
     |refine g7 h cL (λ_ ⟨_,e,aZ⟩=>?_);subst e aZ
     |refine g7 h cS (λ_ ⟨_,e,aZ⟩=>?_);subst e aZ
     |exact dh h ae rfl ⟨_,rfl,rfl⟩) D,by cases y<;>rfl⟩
theorem aeX(J:mD A B a (.agg B9))(U:mD fi B' b (.agg ux))(gW:A<1000000000:=by omega)(fE:B<1000000000:=by omega)(p2:fi<1000000000:=by omega)(ku:B'<1000000000:=by omega):
  sU 184 [.fs oJ 2,.fn 146 [] [.ptr lJ 0,.ptr gd 0]] [(lJ,B9),(gd,ux)] (m3 λn=>decide (0<=n)=(um false a b || um true a b)):=⟨λs ae au aE=>
 (Vj (cv aS)).ee 3 (by
  show aV _ (Iq a9 3 (.fs oJ 2) (.fn 146 [] [.ptr lJ 0,.ptr gd 0]) s);unfold Iq;simp only[cw];have h:=((aX.nil ae au).q7 aE.2.1.1 aE.2.1.2).q7 aE.1.1 aE.1.2;have r:=h.bX;have cL:=T1 (lJ:=lJ) (gd:=gd) false J U;have cS:=T1 (lJ:=lJ) (gd:=gd) true J U;have fA:∀k,dW 2 (.fs oJ 2) (.int k 0)=some (.fu oJ):=λk=>rfl;have gC:∀k,dW 2 (.fs oJ 2) (.int k 1)=some (.fu (oJ.drop 2)):=λk=>rfl;have gx:∀s,bf 2 s (.fu oJ)=some (.agg (Ew false)):=λs=>rfl;have g4:∀s,bf 2 s (.fu (oJ.drop 2))=some (.agg (Ew true)):=λs=>rfl;have qD:IntKind.i64.wrap (0+1)=1:=rfl;have uX:IntKind.i64.wrap (1+1)=2:=rfl;have Z:fP (.fs oJ 2)=some (.int .i64 2):=rfl;have jI:∀ {s':S} {L:List b2},aX s s' L->aX s s' L:=id;cases aa:um false a b
  ·cases ai:um true a b;all_goals
    have bC:=ar @Z (ar @fA (ar @gC (ar @gx (ar @g4 (ar @qD @uX)))));repeat' first
     |refine cO ?_
     |refine Ct ?_
     |refine p0 h cL ⟨h.or (by simp),h.or (by simp),trivial⟩ (λ_ ⟨_,e,aZ⟩=>?_);subst e;rw[aa]at aZ;subst aZ
     |refine p0 h cS ⟨h.or (by simp),h.or (by simp),trivial⟩ (λ_ ⟨_,e,aZ⟩=>?_);subst e;rw[ai]at aZ;subst aZ
     |exact dh h ae rfl ⟨_,rfl,rfl⟩
  ·have bC:=ar @Z (ar @fA (ar @gC (ar @gx (ar @g4 (ar @qD @uX)))));repeat' first
    |refine cO ?_
    |refine Ct ?_
    |refine p0 h cL ⟨h.or (by simp),h.or (by simp),trivial⟩ (λ_ ⟨_,e,aZ⟩=>?_);subst e;rw[aa]at aZ;subst aZ
    |exact dh h ae rfl ⟨_,rfl,rfl⟩) D,rfl⟩
theorem aeK(J:mD A B a (.agg B9))(U:mD fi B' b (.agg ux))(gW:A<1000000000:=by omega)(fE:B<1000000000:=by omega)(p2:fi<1000000000:=by omega)(ku:B'<1000000000:=by omega):
  sU 145 [.fs oJ 2,.fn 146 [] [.ptr lJ 0,.ptr gd 0]] [(lJ,B9),(gd,ux)] (lj (·=(um false a b || um true a b))):=⟨λs ae au aE=>
 (UW (cv aS)).ee 0 (by
  show aV _ (HZ a9 0 (.fs oJ 2) (.fn 146 [] [.ptr lJ 0,.ptr gd 0]) s);unfold HZ;simp only[cw];have h:=((aX.nil ae au).q7 aE.2.1.1 aE.2.1.2).q7 aE.1.1 aE.1.2;have r:=h.bX;have q:=aeX (lJ:=lJ) (gd:=gd) J U;repeat' first
   |refine iG ?_
   |refine p0 h q ⟨h.or (by simp),h.or (by simp),trivial⟩ (λ_ ⟨_,e,aZ⟩=>?_);subst e;rw[<-aZ]
   |exact dh h ae rfl ⟨_,rfl,rfl⟩) D,rfl⟩
theorem afu(J:mD A B a v)(U:mD fi B' b w)(gW:A<1000000000:=by omega)(fE:B<1000000000:=by omega)(p2:fi<1000000000:=by omega)(ku:B'<1000000000:=by omega):
  cI 93 [v,w] (lj (·=nS a b)):=⟨λs ae au=>
 (V4 (cv aS)).ee 0 (by
  show aV _ (Jd a9 0 v w s);unfold Jd;simp only[cw];have h:=aX.nil ae au;have r:=h.bX;have iT:=J;have jW:=U;obtain ⟨b1,cq,cV,dn,bb,bU,cP,c7,cy,cm,dc,dw,d1,d2,d3,d4,rfl,_⟩:=J;obtain ⟨aC,ba,cd,ff,f1,f2,f3,f4,i1,i2,i3,i4,e6,fo,g9,h4,rfl,_⟩:=U;have q:=λ{lJ gd:Nat} =>aeK (lJ:=lJ) (gd:=gd) iT jW;have sr:nU types 204 (.ptr 0 0) none none none=some (.bx 0 0 2 2 2):=rfl;rw[<-ahk];have bC:=ar @sr (ar @Lz @nv);repeat' first
   |refine cO ?_
   |refine cf h λ_ _ h r=>?_
   |refine akz h rfl q ⟨h.rO eB,h.rO eB,trivial⟩ (λ_ ⟨_,e,aZ⟩=>?_);subst e aZ
   |exact dh h ae rfl ⟨_,rfl,rfl⟩) D,df J.a2 U.a2⟩
end
theorem xK:(∀a b:Int,mq true [.int .i64 a,.int .i64 b]=some (.int .i64 (max a b)))∧(∀a b:Int,mq false [.int .i64 a,.int .i64 b]=some (.int .i64 (min a b))):=by
 refine ⟨λa b=>?_,λa b=>?_⟩;show some (V.int IntKind.i64 (if b>a then b else a))=_;rw[show (if b>a then b else a)=max a b by split<;>omega];show some (V.int IntKind.i64 (if b<a then b else a))=_;rw[show (if b<a then b else a)=min a b by split<;>omega]
end
end Go.ah.X
