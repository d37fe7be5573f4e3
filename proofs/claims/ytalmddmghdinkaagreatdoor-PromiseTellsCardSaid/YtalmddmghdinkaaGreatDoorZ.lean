/-
  A part: lemmas; conditions: those that each names.
-/
import Derived.Test.YtalmddmghdinkaaGreatDoorY
set_option linter.all false
set_option linter.deprecated false
noncomputable section
set_option maxHeartbeats 8000000
set_option maxRecDepth 20000
namespace Go.ah.X
open Go Go.ah Go.Proofs.dI
section
section
variable {ao s:S}{L cu:List b2}{Q:ax->Prop}
theorem aX.bx{v:V}{e z l:Nat}{cs:List V}(h:aX ao s L)(u:b2.ca v e z l cs∈L):lk s z v l cs:=cl.arz (h.ok _ u)
end
theorem Js{α:Type}{f:α->Bool}{l:List α}{i:Nat}{x:α}(h:l[i]? =some x):(l.take (i+1)).any f=((l.take i).any f || f x):=by
 rw[xY h,List.any_append];simp
def oc(bs:List je)(a:je):Bool:=bs.any (nS · a)
def J8(p q:ev):Int:=
 if (p.boxes.map ht).any (oc (q.boxes.map ht)) then max p.c8 q.c8 else max (max p.c8 q.c8) (min p.dH q.dH)
attribute [local irreducible] jj bZ dp aF gZ cJ et c6 e9 eT aW aw cT bB e5 fD ef gv fl eV fe aV
section
variable {A B:Nat}{a b:je}{bs ps:List je}{v w d e:V}{ck:Nat}{x y z:Int}
theorem afj(ad:fY 16 wX bs v)(hw:mD 999999999 999999999 a w)(Z:bs.length<=1000):wV 51 [v,w] 3 1 (λl cs=>cs.all atom=true∧decide (0<l)=oc bs a):=⟨λs ae au=>
 (VO (cv aS)).Kb 1001 (by
  show aV _ (IX a9 1001 v w s);unfold IX;simp only[cw];have h:=aX.nil ae au;have r:=h.bX;generalize eO:1001=F;have pv:=hw;obtain ⟨b1,cq,cV,dn,bb,bU,cP,c7,cy,cm,dc,dw,d1,d2,d3,d4,rfl,dj,dL,eH,e0⟩:=hw;have n5:g3.bytes=8:=rfl;refine oU (by rw[gf]) ?_;refine cf h λzo _ h r=>?_;have bC:= @ad.len;repeat' first
   |refine cO ?_
   |refine hO (λk vs t=> ∃(i:Nat) (x:V) (l:Nat) (cs:List V),vs=[.int .i64 i,.int .i64 bs.length,v,.ptr zo 0,x]∧aX s t [.ca x 3 1 l cs,.cM zo [b1,cq,cV,dn,bb,bU,cP,c7,cy,cm,dc,dw,d1,d2,d3,d4] 108]∧cs.all atom=true∧l<=i∧decide (0<l)=oc (bs.take i) a∧i+k=bs.length) bs.length ⟨0,.af,0,[],rfl,h.xU 3 1,rfl,cg _,rfl,D⟩ D ?_
  rintro a3 k _ t ⟨i,x,l,cs,rfl,h,av,QC,ai,na⟩ cR;have r:=h.bX;by_cases hi:i<bs.length
  ·obtain ⟨B,c,lC,fV,fH,wl,Hb,fa⟩:=ad.c1 (i:=(i:Int)) D D;have fa:=fa .i64;have gY:∀s,bf 16 s (.fu (c++lC))=some (.agg c):=λs=>by rw[Db s D,l2 D]
   rw[dZ]at fV;have q:=afu fH pv;have mm:=dB Hb;obtain ⟨aC,ba,cd,ff,f1,f2,f3,f4,i1,i2,i3,i4,e6,fo,g9,h4,e,de,ej,dy,jc⟩:=fH;cases e;have a5:oc (bs.take (i+1)) a=(decide (0<l) || nS B a):=by unfold oc;rw[Js fV];unfold oc at ai;rw[ai]
   cases hm:nS B a
   ·rw[hm]at q a5;rw[Bool.or_false]at a5;have bC:=ar @fa (ar @gY @bT);repeat' first
     |refine cO ?_
     |refine cf h λ_ _ h r=>?_
     |refine c9 h cj (λ_ h r=>?_) (hx:=mm)
     |refine iI h q (λ_ e=>?_);subst e
     |exact cR (k - 1) _ _ D ⟨i+1,x,l,cs,rfl,h.sub jq,av,D,a5.symm,D⟩
   ·rw[hm]at q a5;rw[Bm]at a5;have bC:=ar @fa (ar @gY @bT);repeat' first
     |refine cO ?_
     |refine cf h λ_ _ h r=>?_
     |refine c9 h cj (λ_ h r=>?_) (hx:=mm)
     |refine iI h q (λ_ e=>?_);subst e
     |refine oT h (l:=[.int .i64 i]) rfl rfl λ_ _ h r=>?_
     |refine vN h hG (h.bx (.head _)) rfl rfl aS (by rw[n5];omega) λ_ _ h r=>?_
     |exact cR (k - 1) _ _ D ⟨i+1,_,l+1,cs++ [.int .i64 i],rfl,h.sub jq,j8 av rfl,D,by rw[a5];exact gi D,D⟩
  ·have uL:i=bs.length:=D;subst uL;rw[oB]at ai;repeat' first
    |refine iG ?_
    |exact PG h ae (.head _) av ⟨av,ai⟩) D,by
 obtain ⟨cs,aM,aa⟩:=ad;show (ep v && (ep w && true))=true;rw[aM.ep,show ep w=true from ?_];rfl;obtain ⟨b1,cq,cV,dn,bb,bU,cP,c7,cy,cm,dc,dw,d1,d2,d3,d4,rfl,dj,dL,eH,e0⟩:=hw;exact eF dj (eF dL (eF eH (eF e0 rfl)))⟩
theorem afi(ad:fY 16 wX bs e)(hw:mD 999999999 999999999 a w)(Z:bs.length<=1000):sU 50 [w,.ptr ck 0] [(ck,[.int .i64 x,.int .i64 y,.int .i64 z,d,e])] (lj (·=oc bs a)):=⟨λs ae au aE=>
 (VN (cv aS)).ee 0 (by
  show aV _ (IW a9 0 w (.ptr ck 0) s);unfold IW;simp only[cw];have h:=(aX.nil ae au).q7 aE.1.1 aE.1.2;have r:=h.bX;have q:=afj ad hw Z;obtain ⟨b1,cq,cV,dn,bb,bU,cP,c7,cy,cm,dc,dw,d1,d2,d3,d4,rfl,dj,dL,eH,e0⟩:=hw;repeat' first
   |refine iG ?_
   |refine cf h λ_ _ h r=>?_
   |refine YB h q (λ_ _ _ _ ⟨_,e⟩ h r=>?_);have Z:=(h.bx (.head _)).len
  have bC:=ar @Z @Int.natCast_pos;repeat' first
   |refine cO ?_
   |exact dh h ae rfl ⟨_,rfl,e⟩) D,by simp[tD,hw.a2]⟩
theorem Up(al:fY 16 wX ps v)(gF:ps.length<=1000)(ad:fY 16 wX bs e)(Z:bs.length<=1000):sU 92 [v,.fn 50 [] [.ptr ck 0]] [(ck,[.int .i64 x,.int .i64 y,.int .i64 z,d,e])] (m3 λn=>decide (0<=n)=ps.any (oc bs)):=⟨λs ae au aE=>
 (V3 (cv aS)).ee 1001 (by
  show aV _ (Jc a9 1001 v (.fn 50 [] [.ptr ck 0]) s);unfold Jc;simp only[cw];have h:=(aX.nil ae au).q7 aE.1.1 aE.1.2;have r:=h.bX;generalize eO:1001=F;have bC:= @al.len;repeat' first
   |refine cO ?_
   |refine hO (λk vs t=> ∃i:Nat,vs=[.int .i64 i,.int .i64 ps.length,.fn 50 [] [.ptr ck 0],v]∧aX s t [.ro ck [.int .i64 x,.int .i64 y,.int .i64 z,d,e]]∧(ps.take i).any (oc bs)=false∧i+k=ps.length) ps.length ⟨0,rfl,h,rfl,D⟩ D ?_
  rintro a3 k _ t ⟨i,rfl,h,ai,na⟩ cR;have r:=h.bX;by_cases hi:i<ps.length
  ·obtain ⟨B,c,lC,fV,fH,wl,Hb,fa⟩:=al.c1 (i:=(i:Int)) D D;have fa:=fa .i64;have gY:∀s,bf 16 s (.fu (c++lC))=some (.agg c):=λs=>by rw[Db s D,l2 D]
   rw[dZ]at fV;have q:=afi (ck:=ck) (x:=x) (y:=y) (z:=z) (d:=d) ad fH Z;have a5:=Js (f:=oc bs) fV;rw[ai,vm]at a5;cases hm:oc bs B
   ·rw[hm]at q a5;have bC:=ar @fa (ar @gY @bT);repeat' first
     |refine cO ?_
     |refine p0 h q ⟨h.or (by simp),trivial⟩ (λ_ ⟨_,e,aZ⟩=>?_);subst e aZ
     |exact cR (k - 1) _ _ D ⟨i+1,rfl,h,a5,D⟩
   ·rw[hm]at q a5;have jJ:ps.any (oc bs)=true:=by
     rw[tY];exact ⟨B,hR fV,hm⟩
    have bC:=ar @fa (ar @gY @bT);repeat' first
     |refine cO ?_
     |refine p0 h q ⟨h.or (by simp),trivial⟩ (λ_ ⟨_,e,aZ⟩=>?_);subst e aZ
     |exact dh h ae rfl ⟨_,rfl,by rw[jJ];exact gi D⟩
  ·have uL:i=ps.length:=D;subst uL;rw[oB]at ai;repeat' first
    |refine iG ?_
    |exact dh h ae rfl ⟨_,rfl,ai.symm ▸ rfl⟩) D,by
 obtain ⟨cs,aM,aa⟩:=al;show ((a2 v || _) && (true && true))=true;rw[aM.a2];rfl⟩
theorem afg(al:fY 16 wX ps v)(gF:ps.length<=1000)(ad:fY 16 wX bs e)(Z:bs.length<=1000):sU 49 [v,.fn 50 [] [.ptr ck 0]] [(ck,[.int .i64 x,.int .i64 y,.int .i64 z,d,e])] (lj (·=ps.any (oc bs))):=⟨λs ae au aE=>
 (VM (cv aS)).ee 0 (by
  show aV _ (IV a9 0 v (.fn 50 [] [.ptr ck 0]) s);unfold IV;simp only[cw];have h:=(aX.nil ae au).q7 aE.1.1 aE.1.2;have r:=h.bX;have q:=Up (ck:=ck) (x:=x) (y:=y) (z:=z) (d:=d) al gF ad Z;repeat' first
   |refine iG ?_
   |refine p0 h q ⟨h.or (by simp),trivial⟩ (λ_ ⟨_,e,aZ⟩=>?_);subst e
   |exact dh h ae rfl ⟨_,rfl,aZ⟩) D,(Up (ck:=ck) (x:=x) (y:=y) (z:=z) (d:=d) al gF ad Z).2⟩
end
theorem aeY{p q:ev}{a b:V}(av:gU p a)(Y:gU q b)(al:p.ti)(a7:q.ti):cI 19 [a,b] (m3 (·=J8 p q)):=⟨λs ae au=>
 (Vl (cv aS)).ee 0 (by
  show aV _ (Is a9 0 a b s);unfold Is;simp only[cw];have h:=aX.nil ae au;have r:=h.bX;have iA:=al.hW;have gB:=a7.hW;have gW:=av.a2;have fE:=Y.a2;obtain ⟨d,e,cs,rfl,ai,he,E⟩:=av;obtain ⟨bK,aZ,cs',rfl,eP,mi,oX⟩:=Y;have J:=gU.De he E al;have U:=gU.De mi oX a7;have k:=λ{ck:Nat} {x y z:Int} {d:V} =>afg (ck:=ck) (x:=x) (y:=y) (z:=z) (d:=d) J (by rw[qY];omega) U (by rw[qY];omega);unfold J8;by_cases aa:min p.dH q.dH<=max p.c8 q.c8
  ·have ad:(if (p.boxes.map ht).any (oc (q.boxes.map ht)) then max p.c8 q.c8 else max (max p.c8 q.c8) (min p.dH q.dH))=max p.c8 q.c8:=by split<;>omega
   rw[ad];have th:=gi aa;have bC:=ar @xK @th;repeat' first
    |refine cO ?_
    |refine cf h λ_ _ h r=>?_
    |refine yC (by repeat first|exact mF.nil|apply mF.cons) ?_
    |exact dh h ae rfl ⟨_,rfl,rfl⟩
  ·have th:=e3 aa;cases dE:(p.boxes.map ht).any (oc (q.boxes.map ht));all_goals
    rw[dE]at k;have bC:=ar @xK (ar @Lz @th);repeat' first
     |refine cO ?_
     |refine cf h λ_ _ h r=>?_
     |refine yC (by repeat first|exact mF.nil|apply mF.cons) ?_
     |refine p0 h k ⟨h.rO eB,trivial⟩ (λ_ ⟨_,e,aZ⟩=>?_);subst e aZ
     |exact dh h ae rfl ⟨_,rfl,by simp;try omega⟩) D,by simp[av.a2,Y.a2]⟩
end
section
theorem adp(x y:Rat):decide (gN x y<0)=decide (x<y):=decide_eq_decide.2 (Mu x y)
theorem arp(x y:Rat):decide (0<=gN x y)= !decide (x<y):=by
 rw[<-adp];by_cases h:gN x y<0;rw[gi h];exact e3 D;rw[e3 h];exact gi D
def pN(n:Nat)(b:je)(v:V):Prop:= ∃b1 cq cV dn bb bU cP c7 cy cm dc dw d1 d2 d3 d4,v=.agg [b1,cq,cV,dn,bb,bU,cP,c7,cy,cm,dc,dw,d1,d2,d3,d4]∧cH n b.h9 b1 cq cV dn∧cH n b.im bb bU cP c7∧cH n b.hx cy cm dc dw∧cH n b.aI d1 d2 d3 d4
theorem mD.lC{A B:Nat}{b:je}{v:V}(h:mD A B b v)(gW:A<1000000000:=by omega)(fE:B<1000000000:=by omega):pN 1 b v:=by
 obtain ⟨b1,cq,cV,dn,bb,bU,cP,c7,cy,cm,dc,dw,d1,d2,d3,d4,rfl,dj,dL,eH,e0⟩:=h;exact ⟨_,_,_,_,_,_,_,_,_,_,_,_,_,_,_,_,rfl,dj.hE,dL.hE,eH.hE,e0.hE⟩
theorem eC{n:Nat}{x:Rat}{a b c d:V}{l:List V}(h:cH n x a b c d)(Z:l.all atom=true):(a::b::c::d::l).all atom=true:=j8 h.atoms Z
theorem pN.a2{n:Nat}{b:je}{v:V}(h:pN n b v):X.a2 v=true:=by
 obtain ⟨b1,cq,cV,dn,bb,bU,cP,c7,cy,cm,dc,dw,d1,d2,d3,d4,rfl,J,U,aj,aH⟩:=h;exact eC J (eC U (eC aj (eC aH rfl)))
attribute [local irreducible] jj bZ dp aF gZ cJ et c6 e9 eT aW aw cT bB e5 fD ef gv fl eV fe aV
section
variable {n m:Nat}{a b:je}{v w:V}
theorem Ug(J:pN n a v)(U:pN m b w)(a5:n+m<=1000:=by omega):
  cI 52 [v,w] (lj (·=nS a b)):=⟨λs ae au=>
 (agt (cv aS)).ee 0 (by
  show aV _ (N5 a9 0 v w s);unfold N5;simp only[cw];have h:=aX.nil ae au;have r:=h.bX;obtain ⟨b1,cq,cV,dn,bb,bU,cP,c7,cy,cm,dc,dw,d1,d2,d3,d4,rfl,dj,dL,eH,e0⟩:=J;obtain ⟨aC,ba,cd,ff,f1,f2,f3,f4,i1,i2,i3,i4,e6,fo,g9,h4,rfl,de,ej,dy,jc⟩:=U;have cL:=ub eH de;have cS:=ub dy dj;have ds:=ub e0 ej;have gw:=ub jc dL;clear a5;unfold nS;cases e1:decide (a.hx<b.h9)<;>cases ei:decide (b.hx<a.h9)<;>cases fG:decide (a.aI<b.im)<;>cases iB:decide (b.aI<a.im);all_goals
   have bC:=ar @adp (ar @arp (ar @e1 (ar @ei (ar @fG (ar @iB (ar @j6 @lg))))));repeat' first
    |refine cO ?_
    |refine cf h λ_ _ h r=>?_
    |refine g7 h cL (λ_ ⟨_,e,aZ⟩=>?_);subst e aZ
    |refine g7 h cS (λ_ ⟨_,e,aZ⟩=>?_);subst e aZ
    |refine g7 h ds (λ_ ⟨_,e,aZ⟩=>?_);subst e aZ
    |refine g7 h gw (λ_ ⟨_,e,aZ⟩=>?_);subst e aZ
    |exact dh h ae rfl ⟨_,rfl,rfl⟩) D,df J.a2 U.a2⟩
end
end
section
attribute [local irreducible] jj bZ dp aF gZ cJ et c6 e9 eT aW aw cT bB e5 fD ef gv fl eV fe aV
section
variable {n m:Nat}{a b:je}{v w:V}{x y:Rat}{aC ba cd ff f1 f2 f3 f4:V}
theorem Uo(J:pN n a v)(hx:cH m x aC ba cd ff)(aI:cH m y f1 f2 f3 f4)(a5:n+m<=1000:=by omega):
  cI 91 [v,.agg [aC,ba,cd,ff,f1,f2,f3,f4]] (lj (·=nS a ⟨x,y,x,y⟩)):=⟨λs ae au=>
 (agN (cv aS)).ee 0 (by
  show aV _ (Ol a9 0 v (.agg [aC,ba,cd,ff,f1,f2,f3,f4]) s);unfold Ol;simp only[cw];have h:=aX.nil ae au;have r:=h.bX;have k:=Ug J (b:=⟨x,y,x,y⟩) ⟨_,_,_,_,_,_,_,_,_,_,_,_,_,_,_,_,rfl,hx,aI,hx,aI⟩;obtain ⟨b1,cq,cV,dn,bb,bU,cP,c7,cy,cm,dc,dw,d1,d2,d3,d4,rfl,dj,dL,eH,e0⟩:=J;repeat' first
   |refine iG ?_
   |refine cf h λ_ _ h r=>?_
   |refine iI h k (λ_ e=>?_);subst e
   |exact dh h ae rfl ⟨_,rfl,rfl⟩) D,df J.a2 (eC hx (eC aI rfl))⟩
theorem afe(J:pN n a v)(U:pN m b w)(hx:b.h9<=b.hx)(aI:b.im<=b.aI)(a5:n+m<=1000:=by omega):
  cI 44 [v,w] (lj (·=xb a b)):=⟨λs ae au=>
 (agr (cv aS)).ee 0 (by
  show aV _ (N3 a9 0 v w s);unfold N3;simp only[cw];have h:=aX.nil ae au;have r:=h.bX;have iT:=J;obtain ⟨b1,cq,cV,dn,bb,bU,cP,c7,cy,cm,dc,dw,d1,d2,d3,d4,rfl,dj,dL,eH,e0⟩:=J;obtain ⟨aC,ba,cd,ff,f1,f2,f3,f4,i1,i2,i3,i4,e6,fo,g9,h4,rfl,de,ej,dy,jc⟩:=U;have aB:=Uo iT de ej;have aT:=Uo iT dy jc;rw[<-aiZ hx aI];clear a5 hx aI;cases e1:nS a ⟨b.h9,b.im,b.h9,b.im⟩<;>cases ei:nS a ⟨b.hx,b.aI,b.hx,b.aI⟩;all_goals
   rw[e1]at aB;rw[ei]at aT;repeat' first
    |refine iG ?_
    |refine cf h λ_ _ h r=>?_
    |refine iI h aB (λ_ e=>?_);subst e
    |refine iI h aT (λ_ e=>?_);subst e
    |exact dh h ae rfl ⟨_,rfl,rfl⟩) D,df J.a2 U.a2⟩
end
theorem ae2{p q:ev}{a b:V}(av:gU p a)(Y:gU q b)(al:p.ti)(a7:q.ti):cI 20 [a,b] (m3 (·=J8 p q)):=⟨λs ae au=>
 (af9 (cv aS)).ee 1001 (by
  show aV _ (NP a9 1001 a b s);unfold NP;simp only[cw];have h:=aX.nil ae au;have r:=h.bX;have iA:=al.hW;have gB:=a7.hW;have gW:=av.a2;have fE:=Y.a2;obtain ⟨d,e,cs,rfl,ai,he,E⟩:=av;obtain ⟨bK,aZ,cs',rfl,eP,mi,oX⟩:=Y;have J:=gU.De he E al;have U:=gU.De mi oX a7;have bk:=J.len;have cn:=U.len;have avm:(p.boxes.map ht).length<=12:=by rw[qY];exact iA
  have avn:(q.boxes.map ht).length<=12:=by rw[qY];exact gB
  unfold J8;generalize p.boxes.map ht=ps at*;generalize q.boxes.map ht=qM at*;generalize eO:1001=F;refine oU (by rw[gf]) ?_;refine cf h λlJ _ h r=>?_;refine oU (by rw[gf]) ?_;refine cf h λgd _ h r=>?_;have bC:= @xK;repeat' first
   |refine cO ?_
   |refine hO (λk vs u=> ∃i:Nat,vs=[.int .i64 i,.ptr lJ 0,.ptr gd 0,.int .i64 (max p.c8 q.c8),.int .i64 (min p.dH q.dH)]∧aX s u [.cM gd [.int .i64 q.host,.int .i64 q.c8,.int .i64 q.dH,bK,aZ] 37,.cM lJ [.int .i64 p.host,.int .i64 p.c8,.int .i64 p.dH,d,e] 37]∧i+k=ps.length∧(ps.take i).any (oc qM)=false) ps.length ⟨0,rfl,h,D,rfl⟩ D ?_
  rintro a3 k _ u ⟨i,rfl,h,na,nc⟩ cR;have r:=h.bX;by_cases hi:i<ps.length
  ·obtain ⟨B,c,lC,fV,fH,wl,Hb,fa⟩:=J.c1 (i:=(i:Int)) D D;have fa:=fa .i64;have gY:∀s,bf 16 s (.fu (c++lC))=some (.agg c):=λs=>by rw[Db s D,l2 D]
   rw[dZ]at fV;have bC:= @bk;repeat' first
    |refine cO ?_
    |refine hO (λk' vs u=> ∃j:Nat,vs=[.int .i64 j,.int .i64 i,.ptr lJ 0,.ptr gd 0,.int .i64 (max p.c8 q.c8),.int .i64 (min p.dH q.dH)]∧aX s u [.cM gd [.int .i64 q.host,.int .i64 q.c8,.int .i64 q.dH,bK,aZ] 37,.cM lJ [.int .i64 p.host,.int .i64 p.c8,.int .i64 p.dH,d,e] 37]∧j+k'=qM.length∧(qM.take j).any (nS · B)=false) qM.length ⟨0,rfl,h,D,rfl⟩ D ?_
   rintro xE k' _ u ⟨j,rfl,h,mN,QX⟩ lO;have r:=h.bX;by_cases aG:j<qM.length
   ·obtain ⟨B',bj,ac5,fA,gC,awe,awd,gx⟩:=U.c1 (i:=(j:Int)) D D;have gx:=gx .i64;have g4:∀s,bf 16 s (.fu (bj++ac5))=some (.agg bj):=λs=>by rw[Db s D,l2 D]
    rw[dZ]at fA;have rI:=Ug fH.lC gC.lC;have a5:=Js (f:=(nS · B)) fA;rw[meet_comm]at rI;rw[QX,vm]at a5;cases hm:nS B' B
    ·rw[hm]at rI a5;have bC:=ar @cn (ar @fa (ar @gY (ar @gx (ar @g4 @bT))));repeat' first
      |refine cO ?_
      |refine iI h rI (λ_ e=>?_);subst e
      |exact lO (k' - 1) _ _ D ⟨j+1,rfl,h,D,a5⟩
    ·rw[hm]at rI;have jJ:ps.any (oc qM)=true:=by
      rw[tY];exact ⟨B,hR fV,by unfold oc;rw[tY];exact ⟨B',hR fA,hm⟩⟩
     have bC:=ar @cn (ar @fa (ar @gY (ar @gx (ar @g4 @bT))));repeat' first
      |refine cO ?_
      |refine iI h rI (λ_ e=>?_);subst e
      |exact dh h ae rfl ⟨_,rfl,by rw[jJ];rfl⟩
   ·have po:j=qM.length:=D;subst po;rw[oB]at QX;have a5:=Js (f:=oc qM) fV;rw[nc,vm]at a5;have bC:=ar @cn @bT;repeat' first
     |refine cO ?_
     |exact cR (k - 1) _ _ D ⟨i+1,rfl,h,D,a5.trans QX⟩
  ·have uL:i=ps.length:=D;subst uL;rw[oB]at nc;have bC:=ar @bk @xK;repeat' first
    |refine cO ?_
    |exact dh h ae rfl ⟨_,rfl,by rw[nc];rfl⟩) D,by simp[av.a2,Y.a2]⟩
end
section
section
variable {α:Type}{ao s:S}{L:List b2}{z l:Nat}{v:V}{cs:List V}{R:α->List V->Prop}{xs:List α}
theorem kk.p(h:kk ao z R xs v)(au:l4 ao){i:Int}(aR:0<=i)(J:i<xs.length):∃p x c nr,(∀k,dW z v (.int k i)=some p)∧xs[i.toNat]? =some x∧R x c∧c.length=z∧c.all X.atom=true∧cp.cc p=[nr]∧nr<ao.n∧
  (∀s L,aX ao s L->bf z s p=some (.agg c))∧(∀s L,aX ao s L->z=1->cZ s p=some (c.getD 0 .bad)):=by
 obtain ⟨cs,aM,aa⟩:=h;obtain ⟨x,c,r,U,aj,aH,bD,cF⟩:=aa.at (i:=i.toNat) D;have key:∀ {p:V},(∀k,dW z v (.int k i)=some p)->(∀s L,aX ao s L->bf z s p=some (.agg c))∧(∀s L,aX ao s L->z=1->cZ s p=some (c.getD 0 .bad)):=λ{p} al=>by
  refine ⟨λs L hm=>?_,λs L hm aY=>?_⟩;obtain ⟨dA,aC,ba,cd⟩:=(aM.mono hm).c1 .i64 aR J;rw[al]at aC;cases aC;rw[ba z (cg _),cF,List.take_left' aH];obtain ⟨dA,aC,ba,cd⟩:=(aM.mono hm).c1 .i64 aR J;rw[al]at aC;cases aC;subst aY;rw[cd rfl];rw[ox]at cF;have:cs.getD i.toNat .bad=(cs.drop i.toNat).getD 0 .bad:=by simp[ir]
  rw[this,cF];simp[ir,vi (show 0<c.length by omega)]
 cases aM with
 |ew v l cs aM=>
  have al:=λk=>aM.c1 k aR J;exact ⟨_,x,c,0,al,U,aj,aH,bD,rfl,by have:=au.n;omega,key al⟩
 |uo b l cs Y E Z=>
  have al:=λk=>px (z:=z) (b:=b) (o:=0) (c:=xs.length) (mW:=z) k aR J;exact ⟨_,x,c,b,al,U,aj,aH,bD,rfl,Y,key al⟩
end
section
variable {ao s bc:S}{L cu:List b2}{P:V->List b2->Prop}{u v w:V}
theorem akJ(h:aX ao s L)(hu:en u=false)(ad:en v=false)(al:P (.da [u,v]) cu)(ae:cu.Sublist L)(E:cu.all b2.u3=true:=by rfl):aV (pU ao P) (e5 true bc s [some u,some v]):=
 ⟨_,s,cu,by show yu _ s=_;unfold yu;rw[r9 hu,r9 ad];rfl,⟨h.sub ae,E⟩,al⟩
theorem akK(h:aX ao s L)(hu:en u=false)(ad:en v=false)(hw:en w=false)(al:P (.da [u,v,w]) cu)(ae:cu.Sublist L)(E:cu.all b2.u3=true:=by rfl):aV (pU ao P) (e5 true bc s [some u,some v,some w]):=
 ⟨_,s,cu,by show yu _ s=_;unfold yu;rw[r9 hu,r9 ad,r9 hw];rfl,⟨h.sub ae,E⟩,al⟩
end
def r5(s:S)(P:V->Prop)(a:ax):Prop:=pU s (λv L=>L=[]∧P v) a
section
variable {ao s:S}{L:List b2}{Q:ax->Prop}
theorem Cw{K:V->S->ax}{aP st:Bool}{f:Nat}{args:List V}{P:V->Prop}(h:aX ao s L)(aa:r5 (aN s) P (a9 f args (aN s)))(Y:args.any en=false)(H:∀v s',P v->aX ao s' L->jF s' L->aV Q (K v s'))(hk:dT f=true:=by rfl):aV Q (bZ (cJ a9 aP st (.fn f [] []) args s) K):=
 Cv h aa Y (λv s' _ ⟨e,al⟩ h'=>by subst e;exact H v s' al h' h'.bX) hk
theorem Cx{K:V->S->ct->ax}{f:Nat}{args:List V}{P:V->Prop}(h:aX ao s L)(aa:r5 (aN s) P (a9 f args (aN s)))(Y:args.any en=false)(H:∀v s' lo hi,P v->aX ao s' L->jF s' L->aV Q (K v s' (eM none lo hi [])))(hk:dT f=true:=by rfl):aV Q (dp (et a9 (.fn f [] []) args s) K):=
 akR h aa Y (λv s' lo hi _ ⟨e,al⟩ h'=>by subst e;exact H v s' lo hi al h' h'.bX) hk
theorem xM{u v w:V}(hu:en u=false)(ad:en v=false)(hw:en w=false): [u,v,w].any en=false:=by
 show (en u || (en v || (en w || false)))=false;rw[hu,ad,hw];rfl
theorem Gt{u v:V}(hu:en u=false)(ad:en v=false): [u,v].any en=false:=by
 show (en u || (en v || false))=false;rw[hu,ad];rfl
theorem Kn{P:V->Prop}{v:V}{bc:S}(h:aX ao s L)(Y:en v=false)(al:P v):aV (r5 ao P) (e5 true bc s [some v]):=yA h Y ⟨rfl,al⟩ (List.nil_sublist _)
theorem akM{P:V->Prop}{u v:V}{bc:S}(h:aX ao s L)(hu:en u=false)(ad:en v=false)(al:P (.da [u,v])):aV (r5 ao P) (e5 true bc s [some u,some v]):=akJ h hu ad ⟨rfl,al⟩ (List.nil_sublist _)
theorem Ko{P:V->Prop}{u v w:V}{bc:S}(h:aX ao s L)(hu:en u=false)(ad:en v=false)(hw:en w=false)(al:P (.da [u,v,w])):aV (r5 ao P) (e5 true bc s [some u,some v,some w]):=akK h hu ad hw ⟨rfl,al⟩ (List.nil_sublist _)
end
theorem kk.aN{α:Type}{s:S}{z:Nat}{R:α->List V->Prop}{xs:List α}{v:V}(h:kk s z R xs v):kk (X.aN s) z R xs v:=let ⟨cs,h,h'⟩:=h;⟨cs,h.aN,h'⟩
theorem kk.bad{α:Type}{s:S}{z:Nat}{R:α->List V->Prop}{xs:List α}{v:V}(h:kk s z R xs v):en v=false:=let ⟨_,h,_⟩:=h;h.bad
attribute [local irreducible] jj bZ dp aF gZ cJ et c6 e9 eT aW aw cT bB e5 fD ef gv fl eV fe aV
def ag5(P eR Ou:V->V->V->V->Prop)(v:V):Prop:= ∃a b c d a8 a4 bj bK e f g i,v=.da [.agg [a,b,c,d,a8,a4,bj,bK],.agg [e,f,g,i]]∧P a b c d∧eR a8 a4 bj bK∧Ou e f g i
theorem Un{m:kl}{v w:V}{q:List Rat}(hm:nD m v){i:Nat}{P:gT}(cQ:m.parts[i]? =some P)(yI:P.ek.length<=3)(th:∀c,c∈P.ek->c.nG<q.length):
  ∀s:S,s.ag=s.n->l4 s->kk s 4 (kE 3 3) q w->r5 s (ag5 (cH 13 (rL q P.ek)) (cH 13 (rM q P.ek)) (cH 13 (xL q P.ek))) (a9 84 [v,w,.int .i64 i] s):=λs ae au a7=>
 (agL (cv aS)).uD 1001 (by
  show aV _ (Oj a9 1001 v w (.int .i64 i) s);unfold Oj;simp only[cw];have h:=aX.nil ae au;have r:=h.bX;generalize eO:1001=F;obtain ⟨d,p,r',k',rfl,J,U,aj,aH⟩:=hm;have hi:i<m.parts.length:=(nX.1 cQ).1;obtain ⟨eR,c,rest,aC,ba,_,_,cd⟩:=U.c1 (i:=(i:Int)) D D;rw[dZ,cQ]at aC;cases aC;obtain ⟨sp,fA,gC,gx,g4,gh,gQ,cD,jD,kq,fQ,bM,jB,hL,bb,bU,cP,c7,rfl,dj,dL,eH,e0,mK⟩:=ba;have cd:=cd .i64;have hlen:=e0.len;refine oU (by rw[gf]) ?_;refine cf h λhg _ h r=>?_;refine cf h λrx _ h r=>?_;refine cf h λrs _ h r=>?_;refine mM (by rw[uB]) ?_;refine Cz ?_;refine cf h λcM _ h r=>?_;refine c9 h cj (λ_ h r=>?_);refine mM (by rw[uB]) ?_;refine Cz ?_;refine cf h λbs _ h r=>?_;refine c9 h cj (λ_ h r=>?_);have bC:=ar @cd @hJ;repeat' first
   |refine cO ?_
   |refine hO (λk vs t=> ∃(j:Nat) (x y z:Rat) (b1 cq cV dn bb bU cP c7 cy cm dc dw:V),vs=[.int .i64 j,kq,w,.ptr cM 0,.ptr bs 0,.ptr rx 0,.ptr rs 0]∧aX s t [.cM bs [cy,cm,dc,dw] 45,.cM cM [b1,cq,cV,dn,bb,bU,cP,c7] 47,.cM rs [.bool false,.af,.bool false,.af] 45,.cM rx [.bool false,.af,.bool false,.af,.bool false,.af,.bool false,.af] 47]∧
     cH (1+4*j) x b1 cq cV dn∧cH (1+4*j) y bb bU cP c7∧cH (1+4*j) z cy cm dc dw∧x=rL q (P.ek.take j)∧y=rM q (P.ek.take j)∧z=xL q (P.ek.take j)∧j+k=P.ek.length) P.ek.length ⟨0,0,0,0,_,_,_,_,_,_,_,_,_,_,_,_,rfl,h.sub jq,ns.hE,ns.hE,ns.hE,rfl,rfl,rfl,D⟩ D ?_
  rintro a3 k _ t ⟨j,x,y,z,b1,cq,cV,dn,bb,bU,cP,c7,cy,cm,dc,dw,rfl,h,cL,cS,ds,hx,aI,aY,mN⟩ cR;have r:=h.bX;by_cases aG:j<P.ek.length
  ·obtain ⟨C,jS,lC,de,ej,_,_,dy⟩:=e0.c1 (i:=(j:Int)) D D;rw[dZ]at de;obtain ⟨d1,d2,d3,d4,aC,ba,cd,ff,f1,f2,f3,f4,rfl,ed,gu,k7⟩:=ej;have dy:=dy .i64;have ZB:=th C (hR de);obtain ⟨avE,qL,aqA,nr,jo,fV,fH,_,_,wt,zo,fa,_⟩:=a7.p au (i:=(C.nG:Int)) D D;obtain ⟨bk,cn,dM,eU,rfl,fH⟩:=fH;have jo:=jo .i64;rw[dZ]at fV;have uV:q.getD C.nG 0=qL:=by rw[ir,fV];rfl
   have s1:([.int .i64 C.nG,d1,d2,d3,d4,aC,ba,cd,ff,f1,f2,f3,f4]:List V).all bL=true:=uj rfl (dB (j8 ed.atoms (j8 gu.atoms k7.atoms)));have dR:=TQ (n:=1) (m:=1) fH.hE ed.hE gu.hE;have k6:=yc (n:=1) (m:=1) fH.hE k7.hE;have dm:=λ{a b c d e f g i:V} (h:cH 3 (qL*C.x) a b c d) (h':cH 3 (qL*C.y) e f g i)=>By (n:=1+4*j) (m:=3) cL cS h h';have fy:=λ{a b c d:V} (h:cH 3 (qL*C.s) a b c d)=>tZ (n:=1+4*j) (m:=3) ds h;have lP:rL q (P.ek.take (j+1))=x+qL*C.x:=by unfold rL;rw[Cn _ _ de,uV,hx];rfl
   have QK:rM q (P.ek.take (j+1))=y+qL*C.y:=by unfold rM;rw[Cn _ _ de,uV,aI];rfl
   have QL:xL q (P.ek.take (j+1))=z+qL*C.s:=by unfold xL;rw[Cn _ _ de,uV,aY];rfl
   clear hx aI aY uV fV de;have bC:=ar @hlen (ar @dy (ar @jo (ar @wt (ar @hJ @bT))));repeat' first
    |refine cO ?_
    |refine cf h λ_ _ h r=>?_
    |refine c9 h cj (λ_ h r=>?_) (hx:=s1)
    |refine Cq (by rw[fa _ _ h]) ?_
    |refine ta h dR λ_ _ _ _ _ _ _ _ o o'=>?_
    |refine ta h (dm o o') λ_ _ _ _ _ _ _ _ v1 v2=>?_
    |refine eN h k6 λ_ _ _ _ hz=>?_
    |refine eN h (fy hz) λ_ _ _ _ v4=>?_
    |refine fN h cj (λ_ _ h r=>?_) (hx:=dB (eC c3 (eC c3 rfl)))
    |refine fN h cj (λ_ _ h r=>?_) (hx:=dB (cH.atoms c3))
    |refine Cp (by repeat first|exact trivial|apply l8.q|apply l8.w) (by simp only[lZ];decide+kernel) (by simp only[lZ];repeat' first|exact trivial|refine ⟨?_,?_⟩|(rintro rfl;have:=h.ju;simp[oE,b2.hf]at this;done)|exact h.AM c3 eB|exact (h.AM c3 eB).symm) ?_
    |exact cR (k - 1) _ _ D ⟨j+1,_,_,_,_,_,_,_,_,_,_,_,_,_,_,_,rfl,h.sub (M7 ..),v1.mono D,v2.mono D,v4.mono D,lP.symm,QK.symm,QL.symm,D⟩
  ·have po:j=P.ek.length:=D;subst po;rw[oB]at hx aI aY;subst hx aI aY;have bC:= @hlen;repeat' first
    |refine cO ?_
    |refine fN h cj (λ_ _ h r=>?_) (hx:=dB (eC c3 (eC c3 rfl)))
    |refine fN h cj (λ_ _ h r=>?_) (hx:=dB (cH.atoms c3))
    |refine Cp (by repeat first|exact trivial|apply l8.q|apply l8.w) (by simp only[lZ];decide+kernel) (by simp only[lZ];repeat' first|exact trivial|refine ⟨?_,?_⟩|(rintro rfl;have:=h.ju;simp[oE,b2.hf]at this;done)|exact h.AM c3 eB|exact (h.AM c3 eB).symm) ?_
    |exact akM h rfl rfl ⟨_,_,_,_,_,_,_,_,_,_,_,_,rfl,cL.mono D,cS.mono D,ds.mono D⟩) D
theorem Nh{m:kl}{v w:V}{q:List Rat}(hm:nD m v){i:Nat}{P:gT}(cQ:m.parts[i]? =some P)(yI:P.ek.length<=3)(th:∀c,c∈P.ek->c.nG<q.length):
  ∀s:S,s.ag=s.n->l4 s->kk s 4 (kE 3 3) q w->r5 s (wW (cH 15 (P.hx+rL q P.ek)) (cH 15 (P.aI+rM q P.ek))) (a9 75 [v,w,.int .i64 i] s):=λs ae au a7=>
 (agE (cv aS)).uD 0 (by
  show aV _ (Oc a9 0 v w (.int .i64 i) s);unfold Oc;simp only[cw];have h:=aX.nil ae au;have r:=h.bX;have k:=Un (w:=w) hm cQ yI th;obtain ⟨d,p,r',k',rfl,J,U,aj,aH⟩:=hm;have hi:i<m.parts.length:=(nX.1 cQ).1;obtain ⟨eR,c,rest,aC,ba,_,_,cd⟩:=U.c1 (i:=(i:Int)) D D;rw[dZ,cQ]at aC;cases aC;obtain ⟨sp,fA,gC,gx,g4,gh,gQ,cD,jD,kq,fQ,bM,jB,hL,bb,bU,cP,c7,rfl,dj,dL,eH,e0,mK⟩:=ba;have cd:=cd .i64;have Y:=a7.bad;have bC:=ar @cd @hJ;repeat' first
   |refine cO ?_
   |refine cf h λ_ _ h r=>?_
   |refine Cw h (k _ rfl h.g ((a7.mono h).aN)) (xM rfl Y rfl) (λ_ _ ⟨_,_,_,_,_,_,_,_,_,_,_,_,aZ,de,ej,_⟩ h r=>?_);subst aZ;have k:=By (n:=1) (m:=13) dL.hE eH.hE de ej
   |refine c9 h cj (λ_ h r=>?_) (hx:=dB (eC c3 (eC c3 rfl)))
   |refine c9 h cj (λ_ h r=>?_) (hx:=dB (cH.atoms c3))
   |refine ta h k λ_ _ _ _ _ _ _ _ o o'=>?_
   |refine fN h cj (λ_ _ h r=>?_) (hx:=dB (eC c3 (eC c3 rfl)))
   |refine Cp (by repeat first|exact trivial|apply l8.q|apply l8.w) (by simp only[lZ];decide+kernel) (by simp only[lZ];repeat' first|exact trivial|refine ⟨?_,?_⟩|(rintro rfl;have:=h.ju;simp[oE,b2.hf]at this;done)|exact h.AM c3 eB|exact (h.AM c3 eB).symm) ?_
   |exact Kn h rfl ⟨_,_,_,_,_,_,_,_,rfl,o,o'⟩) D
end
section
theorem LV{l:List Int}(h:0<l.length):kg l∈l∧dk l∈l:=by
 have key:∀(l:List Int) (b:Int),(l.foldl min b=b∨l.foldl min b∈l)∧(l.foldl max b=b∨l.foldl max b∈l):=λl=>by
  induction l with
  |nil=>exact λb=>⟨.inl rfl,.inl rfl⟩
  |cons a l a3=>
   intro b;obtain ⟨J,U⟩:=a3 (min b a);obtain ⟨aj,aH⟩:=a3 (max b a);rw[DX,DX];constructor;rcases J with J|J
   rw[J];by_cases Y:b<=a;exact .inl D;exact .inr (by rw[show min b a=a by omega];exact j5 ..);exact .inr (lG _ J);rcases aH with aH|aH
   rw[aH];by_cases Y:a<=b;exact .inl D;exact .inr (by rw[show max b a=a by omega];exact j5 ..);exact .inr (lG _ aH)
 cases l with
 |nil=>simp at h
 |cons a l=>
  obtain ⟨J,U⟩:=key (a::l) a;unfold kg dk;rw[List.headD_cons];exact ⟨J.elim (λh=>by rw[h];exact j5 ..) id,U.elim (λh=>by rw[h];exact j5 ..) id⟩
attribute [local irreducible] jj bZ dp aF gZ cJ et c6 e9 eT aW aw cT bB e5 fD ef gv fl eV fe aV
section
variable {n m:Nat}{x y:Rat}{a b c d a8 a4 bj bK e f g i aZ gj g0 dt:V}
theorem TV(J:cH n x a b c d)(U:cH 13 0 a8 a4 bj bK)(aj:cH 13 0 e f g i)(a5:n<=100:=by omega):
  cI 130 [.agg [a,b,c,d],.agg [a8,a4,bj,bK],.agg [e,f,g,i],.int .i64 0] (El (cH (n+150) x) (cH (n+150) x)):=⟨λs ae au=>
 (afT (cv aS)).ee 0 (by
  show aV _ (NB a9 0 (.agg [a,b,c,d]) (.agg [a8,a4,bj,bK]) (.agg [e,f,g,i]) (.int .i64 0) s);unfold NB;simp only[cw];have h:=aX.nil ae au;have r:=h.bX;have pz:=D6 (p:=0);have aB:=λ{gR jd l1 pK:V} (h:cH 1 ((0:Int):Rat) gR jd l1 pK)=>aeQ J U aj (h.mono (m:=13) D);have aY:x+((0:Rat)*((0:Int):Rat)+0*(((0:Int):Rat)*((0:Int):Rat)*(((1:Int):Rat) / ((2:Int):Rat))))=x:=by
   rw[Rat.zero_mul,Rat.zero_mul,Rat.add_zero,Rat.add_zero]
  rw[aY]at aB;have aT:=λ{gR jd l1 pK:V} (h:cH (n+10*13+20) x gR jd l1 pK)=>aeR (J.mono (m:=n+10*13+20) D) h;have bp:=λ{gR jd l1 pK:V} (h:cH (n+10*13+20) x gR jd l1 pK)=>aeS (J.mono (m:=n+10*13+20) D) h;rw[abw]at aT;rw[YL]at bp;have eh:=Ng aj;rw[adr]at eh;have bC:= @xK;repeat' first
   |refine cO ?_
   |refine cf h λ_ _ h r=>?_
   |refine lp h pz λ_ _ _ _ u=>?_
   |refine lp h (aB c3) λ_ _ _ _ de=>?_
   |refine lp h (aT c3) λ_ _ _ _ ej=>?_
   |refine lp h (bp c3) λ_ _ _ _ dy=>?_
   |refine g7 h eh (λ_ ⟨_,e,aZ⟩=>?_);subst e aZ
   |refine c9 h cj (λ_ h r=>?_) (hx:=dB (cH.atoms c3))
   |refine fN h cj (λ_ _ h r=>?_) (hx:=dB (cH.atoms c3))
   |refine pj ?_
   |exact nJ h ae ej.atoms dy.atoms ⟨_,_,_,_,_,_,_,_,rfl,ej,dy⟩) D,by
 show (a2 _ && (a2 _ && (a2 _ && (true && true))))=true;rw[J.1.a2,U.1.a2,aj.1.a2];rfl⟩
theorem afq{v:V}{c5:List (Int×Int)}(ad:fY 2 l7 c5 v)(aR:0<c5.length)(Z:c5.length<=100)(vZ:∀P,P∈c5-> -1000<=P.1∧P.1<=1000∧ -1000<=P.2∧P.2<=1000)
  {e1 ei fG iB qf lz rP kh v1 v2 hz v4 kT v6 A8 A9 fV fH fa gY vf x2 Bd Be:V} (hx:cH n x e1 ei fG iB) (aI:cH n y qf lz rP kh) (CX:cH 13 0 v1 v2 hz v4) (y3:cH 13 0 kT v6 A8 A9) (qD:cH 13 0 fV fH fa gY) (uX:cH 13 0 vf x2 Bd Be) (a5:n<=100:=by omega):
  cI 85 [v,.agg [e1,ei,fG,iB,qf,lz,rP,kh],.agg [v1,v2,hz,v4,kT,v6,A8,A9],.agg [fV,fH,fa,gY,vf,x2,Bd,Be],.int .i64 0]
   (pN (n+152) ⟨x+(kg (c5.map (·.1)):Rat),y+(kg (c5.map (·.2)):Rat),x+(dk (c5.map (·.1)):Rat),y+(dk (c5.map (·.2)):Rat)⟩):=⟨λs ae au=>
 (agM (cv aS)).ee 1001 (by
  show aV _ (Ok a9 1001 v (.agg [e1,ei,fG,iB,qf,lz,rP,kh]) (.agg [v1,v2,hz,v4,kT,v6,A8,A9]) (.agg [fV,fH,fa,gY,vf,x2,Bd,Be]) (.int .i64 0) s);unfold Ok;simp only[cw];have h:=aX.nil ae au;have r:=h.bX;have hlen:=ad.len;have aB:=TV hx CX qD;have aT:=TV aI y3 uX;obtain ⟨yh,eY,sG,gR,rfl,_,_,l1⟩:=ad.c1 (i:=0) D D;have l1:=l1 .i64;have gR:c5[0]? =some yh:=gR;generalize eO:1001=F;refine oU (by rw[gf]) ?_;refine cf h λnr _ h r=>?_;refine oU (by rw[gf]) ?_;refine cf h λa0 _ h r=>?_;refine oU (by rw[gf]) ?_;refine cf h λBU _ h r=>?_;refine cf h λfh _ h r=>?_;refine cf h λhW _ h r=>?_;refine cf h λY _ h r=>?_;have bC:= @hlen;repeat' first
   |refine cO ?_
   |refine hO (λk vs t=> ∃(j:Nat) (h9 im MH MI:Int),vs=[.int .i64 j,v,.ptr nr 0,.ptr a0 0,.ptr BU 0,.int .i64 0,.ptr hW 0,.ptr Y 0,.ptr fh 0]∧aX s t [.cM Y [.int .i64 MH,.int .i64 MI] 82,.cM hW [.int .i64 h9,.int .i64 im] 82,.cM fh [.bool false,.af,.bool false,.af,.bool false,.af,.bool false,.af,.bool false,.af,.bool false,.af,.bool false,.af,.bool false,.af] 49,.cM BU [fV,fH,fa,gY,vf,x2,Bd,Be] 47,.cM a0 [v1,v2,hz,v4,kT,v6,A8,A9] 47,.cM nr [e1,ei,fG,iB,qf,lz,rP,kh] 47]∧
     (0<j->h9=kg ((c5.take j).map (·.1))∧im=kg ((c5.take j).map (·.2))∧MH=dk ((c5.take j).map (·.1))∧MI=dk ((c5.take j).map (·.2)))∧j+k=c5.length) c5.length ⟨0,0,0,0,0,rfl,h,λh=>absurd h (Nat.lt_irrefl 0),D⟩ D ?_
  rintro a3 k _ t ⟨j,h9,im,MH,MI,rfl,h,hm,mN⟩ cR;have r:=h.bX;by_cases aG:j<c5.length
  ·obtain ⟨P,c,lC,de,rfl,_,_,dy⟩:=ad.c1 (i:=(j:Int)) D D;have dy:=dy .i64;rw[dZ]at de;by_cases ZS:j=0
   ·have cQ:yh=P:=by rw[ZS,gR]at de;cases de;rfl
    have t1:(c5.take (j+1))=[P]:=by rw[ZS,Hr,sP,gR,cQ];rfl
    have pq:min P.1 P.1=kg ((c5.take (j+1)).map (·.1))∧min P.2 P.2=kg ((c5.take (j+1)).map (·.2))∧max P.1 P.1=dk ((c5.take (j+1)).map (·.1))∧max P.2 P.2=dk ((c5.take (j+1)).map (·.2)):=by
     rw[t1];exact ⟨by simp[kg],by simp[kg],by simp[dk],by simp[dk]⟩
    subst cQ;clear hm t1 vZ;have bC:=ar @hlen (ar @dy (ar @l1 (ar @hJ (ar @bT @xK))));repeat' first
     |refine cO ?_
     |refine c9 h cj (λ_ h r=>?_)
     |refine p1 h cj rfl (λ_ h r=>?_)
     |exact cR (k - 1) _ _ D ⟨j+1,_,_,_,_,rfl,h,λ_=>pq,D⟩
   ·have pq:=hm D;have pq:min h9 P.1=kg ((c5.take (j+1)).map (·.1))∧min im P.2=kg ((c5.take (j+1)).map (·.2))∧max MH P.1=dk ((c5.take (j+1)).map (·.1))∧max MI P.2=dk ((c5.take (j+1)).map (·.2)):=by
     rw[pq.1,pq.2.1,pq.2.2.1,pq.2.2.2];exact ⟨(R1 (F:=(·.1)) aR D de).symm,(R1 (F:=(·.2)) aR D de).symm,(R2 (F:=(·.1)) aR D de).symm,(R2 (F:=(·.2)) aR D de).symm⟩
    clear hm vZ;have bC:=ar @hlen (ar @dy (ar @hJ (ar @bT @xK)));repeat' first
     |refine cO ?_
     |refine p1 h cj rfl (λ_ h r=>?_)
     |exact cR (k - 1) _ _ D ⟨j+1,_,_,_,_,rfl,h,λ_=>pq,D⟩
  ·have po:j=c5.length:=D;subst po;rw[oB]at hm;obtain ⟨rfl,rfl,rfl,rfl⟩:=hm aR;have vQ:∀z,z∈c5.map (·.1)->z.natAbs<=1000:=λz aY=>by obtain ⟨P,cQ,rfl⟩:=qn.1 aY;have:=vZ P cQ;omega
   have rp:∀z,z∈c5.map (·.2)->z.natAbs<=1000:=λz aY=>by obtain ⟨P,cQ,rfl⟩:=qn.1 aY;have:=vZ P cQ;omega
   have dR:=LV (l:=c5.map (·.1)) (by rw[qY];exact aR);have dF:=LV (l:=c5.map (·.2)) (by rw[qY];exact aR);have cL:=D6 (p:=kg (c5.map (·.1))) (by have:=vQ _ dR.1;omega);have cS:=D6 (p:=kg (c5.map (·.2))) (by have:=rp _ dF.1;omega);have ds:=D6 (p:=dk (c5.map (·.1))) (by have:=vQ _ dR.2;omega);have gw:=D6 (p:=dk (c5.map (·.2))) (by have:=rp _ dF.2;omega);clear hm vZ vQ rp dR dF;generalize kg (c5.map (·.1))=ate at*;generalize kg (c5.map (·.2))=atf at*;generalize dk (c5.map (·.1))=atg at*;generalize dk (c5.map (·.2))=ath at*;have bC:= @hlen;repeat' first
    |refine cO ?_
    |refine cf h λ_ _ h r=>?_
    |refine YN h aB λ_ _ _ _ _ _ _ _ fA gC=>?_
    |refine YN h aT λ_ _ _ _ _ _ _ _ gh gQ=>?_
    |refine c9 h cj (λ_ h r=>?_) (hx:=dB (cH.atoms c3))
    |refine eN h cL λ_ _ _ _ dj=>?_
    |refine eN h cS λ_ _ _ _ dL=>?_
    |refine eN h ds λ_ _ _ _ eH=>?_
    |refine eN h gw λ_ _ _ _ e0=>?_
    |refine eN h (tZ fA dj) λ_ _ _ _ dm=>?_
    |refine eN h (tZ gh dL) λ_ _ _ _ fg=>?_
    |refine eN h (tZ gC eH) λ_ _ _ _ fy=>?_
    |refine eN h (tZ gQ e0) λ_ _ _ _ gH=>?_
    |refine fN h cj (λ_ _ h r=>?_) (hx:=dB (eC dm (eC fg (eC fy (eC gH rfl)))))
    |refine pj ?_
    |exact dh h ae (eC dm (eC fg (eC fy (eC gH rfl)))) ⟨_,_,_,_,_,_,_,_,_,_,_,_,_,_,_,_,rfl,dm,fg,fy,gH⟩) D,by
 show (a2 v && (a2 _ && (a2 _ && (a2 _ && (true && true)))))=true;rw[ad.A,show a2 (.agg [e1,ei,fG,iB,qf,lz,rP,kh])=true from eC hx (eC aI rfl),show a2 (.agg [v1,v2,hz,v4,kT,v6,A8,A9])=true from eC CX (eC y3 rfl),show a2 (.agg [fV,fH,fa,gY,vf,x2,Bd,Be])=true from eC qD (eC uX rfl)];rfl⟩
end
end
section
section
variable {ao s bc:S}{L cu:List b2}{Q:ax->Prop}
theorem akB{K:V->S->ax}{st:Bool}{f e z l:Nat}{x:V}{cs args args':List V}{P:V->Prop}(h:aX ao s L)(u:ji L (.ca x e z l cs) cu)(fO:gz (aN s) args args' (b4 x) bc)(aa:cI f args' P)
  (H:∀v s',P v->aX ao s' cu->jF s' cu->aV Q (K v s')) (hk:dT f=false:=by rfl):aV Q (bZ (cJ a9 false st (.fn f [] []) args s) K):=by
 have aE:cl ao s e z x l cs:=h.ok _ u.mem;have Y:=λb (Y:b∈b4 x)=>(aE.lo Y).1;have hw:bc.ag=bc.n:=by rw[fO.n.1,fO.n.2];rfl
 obtain ⟨v,ad,aC⟩:=aa.1 bc hw (fO.h h Y);have key:∃s',cJ a9 false st (.fn f [] []) args s=some (v,s')∧Loc ao s'∧fX s s' (b4 x):=by
  have gg:bc.n=s.n:=fO.n.1;have ml:bc.ag=s.n:=fO.n.2;have aR:=h.loc.n;have J:=h.loc.eK;have U:=h.loc.ag;unfold cJ;rw[fO.bad];simp only[hp,hd];have E:kG dT f args { s with ag:=s.n } =(args',b4 x,bc):=(s8 hk _ _).trans fO.run;rw[E];simp only[];rw[aC];simp only[qI];exact ⟨_,rfl,⟨by simp only[gg];exact aR,tF Y D,gb u1 (by simp only[gg];omega)⟩,⟨by simp only[gg];omega,λc _ aa=>fO.out aa⟩⟩
 obtain ⟨s',ba,bk,aB⟩:=key;rw[ba,js];have h':=h.GJ u bk aB;exact H _ _ ad h' h'.bX
theorem gz.pre{s bc:S}{l l':List V}{bs:List Nat}(h:gz s l l' bs bc):∀ {p:List V},p.all ep=true->gz s (p++l) (p++l') bs bc
 |[],_=>h
 |a::p,al=>by
  simp only[gS,dU]at al;have gW:m0 s a a []:=by
   have h:=al.1;unfold ep at h;split at h;exact .agg _ _ _ (q3.atoms h);exact .one _ _ _ (.at _ h)
  exact gz.cons _ _ a a [] _ _ _ gW (h.pre al.2)
theorem aki{e z l:Nat}{x:V}{cs:List V}(p q:List V)(hx:cl ao s e z x l cs)(av:cs.all atom=true)(al:p.all ep=true)(a7:q.all ep=true):
  ∃x' bc,gz (X.aN s) (p++x::x::q) (p++x'::x'::q) (b4 x) bc∧dz z x' l cs:=by
 cases hx with
 |nil=>exact ⟨.af,_,gz.q8 _ (by rw[Bx,al,gS,gS,a7];rfl),.nil⟩
 |cc b l cs bw h Z=>
  have au:(mark [b] (aN s)).h.get b=some (.cells cs e bw false):=by
   have:(aN s).h.get b=some (.cells cs e bw true):=h.get;unfold mark;rw[this];exact aJ.jV _ _ _
  have J:m0 (aN s) (.bx b 0 l l z) (.fs cs l) (bif true then [b] else []):=.one _ _ _ (.bx b 0 l l z cs cs e bw true h.get (cg _) D (by rw[<-Z];simp) av);have U:m0 (mark [b] (aN s)) (.bx b 0 l l z) (.fs cs l) (bif false then [b] else []):=.one _ _ _ (.bx b 0 l l z cs cs e bw false au (cg _) D (by rw[<-Z];simp) av);exact ⟨_,_,(gz.cons _ _ _ _ _ _ _ _ J (.cons _ _ _ _ _ _ _ _ U (gz.q8 _ a7))).pre al,.mk _ _ Z⟩
end
theorem apc(n:Nat)(ek:List oD):rL (List.replicate n 0) ek=0∧rM (List.replicate n 0) ek=0∧xL (List.replicate n 0) ek=0:=by
 have a7:∀i,(List.replicate n (0:Rat)).getD i 0=0:=λi=>by
  rw[ir,M3];split<;>rfl
 have key:∀f:oD->Rat,ek.foldl (λ(a:Rat) (c:oD)=>a+(List.replicate n (0:Rat)).getD c.nG 0*f c) (0:Rat)=0:=λf=>by
  induction ek with
  |nil=>rfl
  |cons c ek a3=>rw[DX,a7,Rat.zero_mul,Rat.add_zero];exact a3
 exact ⟨key oD.x,key oD.y,key oD.s⟩
attribute [local irreducible] jj bZ dp aF gZ cJ et c6 e9 eT aW aw cT bB e5 fD ef gv fl eV fe aV
theorem ast:∃te,aJ.get types 45=some te∧te.size=4∧te.bytes=64∧zero te=[.bool false,.af,.bool false,.af]:=⟨_,rfl,rfl,rfl,rfl⟩
theorem afc{m:kl}{t:oH}{v w z:V}(hm:nD m v)(aO:wZ t w)(aE:m.ok)(hU:t.ok m){i:Nat}{P:gT}(cQ:m.parts[i]? =some P){k:Nat}(hk:k=m.h7.length)(aY:fY 4 (kE 3 3) (List.replicate k 0) z):
  cI 40 [v,w,z,z,.int .i64 i,.int .i64 0] (pN 167 (sK m t P)):=⟨λs ae au=>
 (agq (cv aS)).ee 0 (by
  show aV _ (N2 a9 0 v w z z (.int .i64 i) (.int .i64 0) s);unfold N2;simp only[cw];have h:=aX.nil ae au;have r:=h.bX;have PN:=hR cQ;obtain ⟨dm,fg,fy,gH,ho⟩:=aE.parts P PN;have aaY:=Un (w:=z) (q:=List.replicate k 0) hm cQ gH (λc aa=>by have:=ho c aa;rw[vo];omega);obtain ⟨gR,jd,l1⟩:=apc k P.ek;rw[gR,jd,l1]at aaY;have ad:=hm;obtain ⟨sF,zp,fx,rfl,t1,t2,t3⟩:=aO;have we:=Nh (w:=sF) (q:=t.q) hm cQ gH (λc aa=>by have:=ho c aa;have:=hU.q;omega);obtain ⟨d,p,r',k',rfl,J,U,aj,aH⟩:=hm;have hi:i<m.parts.length:=(nX.1 cQ).1;obtain ⟨eR,c,rest,aC,ba,_,_,cd⟩:=U.c1 (i:=(i:Int)) D D;rw[dZ,cQ]at aC;cases aC;obtain ⟨sp,fA,gC,gx,g4,gh,gQ,cD,jD,kq,fQ,bM,jB,hL,bb,bU,cP,c7,rfl,dj,dL,eH,e0,mK⟩:=ba;have cd:=cd .i64;have anL:=aY.ls (s:=s).bad;have amY:=t1.ls (s:=s).bad;have aoC:=λ{e1 ei fG iB qf lz rP kh v1 v2 hz v4 kT v6 A8 A9 fV fH fa gY vf x2 Bd Be:V} (a:cH 15 (P.hx+rL t.q P.ek) e1 ei fG iB) (b:cH 15 (P.aI+rM t.q P.ek) qf lz rP kh) (c:cH 13 0 v1 v2 hz v4) (d:cH 13 0 kT v6 A8 A9) (e:cH 13 0 fV fH fa gY) (f:cH 13 0 vf x2 Bd Be)=>afq dj D D fy a b c d e f;clear cQ gH ho aE hU gR jd l1;have bC:=ar @cd @hJ;repeat' first
   |refine cO ?_
   |refine cf h λ_ _ h r=>?_
   |refine Cw h (aaY _ rfl h.g aY.ls) (xM rfl anL rfl) (λ_ _ ⟨_,_,_,_,_,_,_,_,_,_,_,_,aZ,de,ej,dy⟩ h r=>?_);subst aZ
   |refine c9 h cj (λ_ h r=>?_) (hx:=dB (eC c3 (eC c3 rfl)))
   |refine c9 h cj (λ_ h r=>?_) (hx:=dB (cH.atoms c3))
   |refine Cx h (we _ rfl h.g t1.ls) (xM rfl amY rfl) (λ_ _ _ _ ⟨_,_,_,_,_,_,_,_,aZ,fV,fH⟩ h r=>?_);subst aZ
   |refine lq h (aoC c3 c3 c3 c3 c3 c3) (λ_ ⟨_,_,_,_,_,_,_,_,_,_,_,_,_,_,_,_,aZ,ed,gu,k7,o0⟩=>?_);subst aZ
   |refine fN h cj (λ_ _ h r=>?_) (hx:=dB (eC c3 (eC c3 (eC c3 (eC c3 rfl)))))
   |refine Cp (by repeat first|exact trivial|apply l8.q|apply l8.w) (by simp only[lZ];decide+kernel) (by simp only[lZ];repeat' first|exact trivial|refine ⟨?_,?_⟩|(rintro rfl;have:=h.ju;simp[oE,b2.hf]at this;done)|exact h.AM c3 eB|exact (h.AM c3 eB).symm) ?_
   |exact dh h ae (eC ed (eC gu (eC k7 (eC o0 rfl)))) ⟨_,_,_,_,_,_,_,_,_,_,_,_,_,_,_,_,rfl,ed,gu,k7,o0⟩) D,by
 show (a2 v && (a2 w && (a2 z && (a2 z && (true && (true && true))))))=true;rw[hm.a2,aO.A,aY.A];rfl⟩
theorem TP{m:kl}{t:oH}{v w:V}(hm:nD m v)(aO:wZ t w)(aE:m.ok)(hU:t.ok m){i:Nat}{P:gT}(cQ:m.parts[i]? =some P):
  cI 10 [v,w,.int .i64 i] (pN 167 (sK m t P)):=⟨λs ae au=>
 (afE (cv aS)).ee 0 (by
  show aV _ (Nr a9 0 v w (.int .i64 i) s);unfold Nr;simp only[cw];have h:=aX.nil ae au;have r:=h.bX;have kI:=hm;have xA:=aO;have Aa:=aE.d;obtain ⟨d,p,r',k',rfl,J,U,aj,aH⟩:=hm;obtain ⟨sF,zp,fx,rfl,t1,t2,t3⟩:=aO;have Z:=J.len;obtain ⟨te,gh,gQ,cD,aaK⟩:=ast;have KJ:=eX.cC (R:=kE 3 3) (x:=(0:Rat)) (c:=[.bool false,.af,.bool false,.af]) ⟨_,_,_,_,rfl,ns.mono D D⟩ rfl rfl m.h7.length;have bC:= @Z;repeat' first
   |refine cO ?_
   |refine cf h λ_ _ h r=>?_
  refine Ff h (ti:=jC 45) rfl rfl gh D (by rw[cD];omega) D (z:=4) gQ (by rw[aaK];rfl) λz s1 h r=>?_;repeat' first
   |refine iG ?_
  rw[dZ,aaK]at h;obtain ⟨x',bc,fO,h3⟩:=aki [.agg [d,p,r',k'],.agg [.int .i64 t.tick,sF,zp,fx]] [.int .i64 i,.int .i64 0] (h.ok _ (.head _)) KJ.atoms (by have b1:ep (.agg [d,p,r',k'])=true:=kI.a2;have cq:ep (.agg [.int .i64 t.tick,sF,zp,fx])=true:=xA.A;show (ep _ && (ep _ && true))=true;rw[b1,cq];rfl) rfl;have FJ:fY 4 (kE 3 3) (List.replicate m.h7.length (0:Rat)) x':=⟨_,by rw[vo];exact h3,KJ⟩;refine akB h (.here _ _) fO (afc kI xA aE hU cQ rfl FJ) (λ_ s' u h r=>?_);have hu:=u.a2;obtain ⟨_,_,_,_,_,_,_,_,_,_,_,_,_,_,_,_,aZ,ed,gu,k7,o0⟩:=u;subst aZ;repeat' first
   |refine iG ?_
   |refine c9 h cj (λ_ h r=>?_) (hx:=dB hu)
   |exact dh h ae hu ⟨_,_,_,_,_,_,_,_,_,_,_,_,_,_,_,_,rfl,ed,gu,k7,o0⟩) D,by simp[hm.a2,aO.A];rfl⟩
end
section
theorem ar0(m:kl)(t:oH)(P:gT):(sK m t P).h9<=(sK m t P).hx∧(sK m t P).im<=(sK m t P).aI:=
 ⟨Rat.add_le_add_left.2 (Rat.intCast_le_intCast.2 (abG _)),Rat.add_le_add_left.2 (Rat.intCast_le_intCast.2 (abG _))⟩
attribute [local irreducible] jj bZ dp aF gZ cJ et c6 e9 eT aW aw cT bB e5 fD ef gv fl eV fe aV
theorem aeE{m:kl}{t:oH}{v w:V}(hm:nD m v)(aO:wZ t w)(aE:m.ok)(hU:t.ok m){p:ev}{a:V}(av:gU p a)(al:p.ti):cI 13 [v,w,a] (lj (·=rH m t p)):=⟨λs ae au=>
 (afS (cv aS)).ee 1000001 (by
  show aV _ (NA a9 1000001 v w a s);unfold NA;simp only[cw];have h:=aX.nil ae au;have r:=h.bX;generalize eO:1000001=F;have iA:=al.iA;have hW:=al.hW;have aB:cI 18 [a] (lj (·=p.formed)):=pC (OQ av D D) (by simp[av.a2]) ⟨_,rfl,rfl⟩;have zb:=λ{i:Nat} {P:gT} (cQ:m.parts[i]? =some P)=>TP hm aO aE hU cQ;obtain ⟨d,e,cs,rfl,ai,he,E⟩:=av;have FJ:=gU.De he E al;have fF:=ai.len;obtain ⟨wh,mp,wi,mk,rfl,Am,vX,Z4,Z5⟩:=hm;obtain ⟨wD,sM,sL,rfl,ank,F0,Q8⟩:=aO;have gF:=vX.len;have kh:=aE.kh;refine oU (by rw[gf]) ?_;refine cf h λhg _ h r=>?_;refine oU (by rw[gf]) ?_;refine cf h λbs _ h r=>?_;refine oU (by rw[gf]) ?_;refine cf h λck _ h r=>?_;cases aM:p.formed
  ·rw[aM]at aB;have hk:rH m t p=false:=by unfold rH;rw[aM];rfl
   rw[hk];have bC:=ar @nv (ar @lg @j6);repeat' first
    |refine cO ?_
    |refine iI h aB (λ_ e=>?_);subst e
    |exact dh h ae rfl ⟨_,rfl,rfl⟩
  obtain ⟨f1,f2,f3⟩:=p.Yn aM;rw[aM]at aB;have bC:=ar @fF (ar @nv (ar @lg @j6));repeat' first
   |refine cO ?_
   |refine iI h aB (λ_ e=>?_);subst e
   |refine hO (λk vs u=> ∃i:Nat,vs=[.int .i64 i,.ptr hg 0,.ptr bs 0,.ptr ck 0]∧aX s u [.cM ck [.int .i64 p.host,.int .i64 p.c8,.int .i64 p.dH,d,e] 37,.cM bs [.int .i64 t.tick,wD,sM,sL] 33,.cM hg [wh,mp,wi,mk] 28]∧i+k=p.parts.length∧ ∀j,j<i->p.parts.getD j 0<m.parts.length) p.parts.length ⟨0,rfl,h,D,λj aG=>absurd aG (Nat.not_lt_zero j)⟩ D ?_
  rintro a3 k _ u ⟨i,rfl,h,na,nc⟩ cR;have r:=h.bX;by_cases hi:i<p.parts.length
  ·have hx:=ai.c1 (.i64) (i:=(i:Int)) D D;rw[dZ]at hx;have kv:=λs=>hb .i64 p.parts s hi;by_cases aa:m.parts.length<=p.parts.getD i 0
   ·have hk:rH m t p=false:=by unfold rH;rw[aM,all_false hi (e3 D)];rfl
    rw[hk];have bC:=ar @fF (ar @hx (ar @kv @gF));repeat' first
     |refine cO ?_
     |refine yC (by repeat first|exact mF.nil|apply mF.cons) ?_
     |exact dh h ae rfl ⟨_,rfl,rfl⟩
   ·have bC:=ar @fF (ar @hx (ar @kv (ar @gF @bT)));repeat' first
     |refine cO ?_
     |refine yC (by repeat first|exact mF.nil|apply mF.cons) ?_
     |exact cR (k - 1) _ _ D ⟨i+1,rfl,h,D,lt_succ nc D⟩
  have uL:i=p.parts.length:=D;subst uL;have jJ:∀i,i<p.parts.length->0<=p.parts.getD i 0∧p.parts.getD i 0<m.parts.length:=λi hi=>⟨(aaL f3 hi).1,nc i hi⟩;have hk:rH m t p=(decide (t.tick<p.c8) || (decide (p.dH<t.tick) || (List.range p.parts.length).all (u6 m t p))):=by
   unfold rH;rw[aM,all_true (f:=λi=>decide (p.parts.getD i 0<m.parts.length)) (λi hi=>gi (jJ i hi).2)];rfl
  rw[hk];clear cR hk nc;have bC:= @fF;repeat' first
   |refine cO ?_
   |refine hO (λk vs u=> ∃i:Nat,vs=[.int .i64 i,.ptr hg 0,.ptr bs 0,.ptr ck 0]∧aX s u [.cM ck [.int .i64 p.host,.int .i64 p.c8,.int .i64 p.dH,d,e] 37,.cM bs [.int .i64 t.tick,wD,sM,sL] 33,.cM hg [wh,mp,wi,mk] 28]∧i+k=p.parts.length∧(p.c8<=t.tick∧t.tick<=p.dH-> ∀j,j<i->u6 m t p j=true)) p.parts.length ⟨0,rfl,h,D,λ_ j aG=>absurd aG (Nat.not_lt_zero j)⟩ D ?_
  rintro a3 k _ u ⟨i,rfl,h,na,nc⟩ cR;have r:=h.bX;by_cases hi:i<p.parts.length
  ·by_cases J:p.c8<=t.tick
   case neg=>
    have bC:=ar @fF @bT;repeat' first
     |refine cO ?_
     |exact cR (k - 1) _ _ D ⟨i+1,rfl,h,D,λdE=>absurd dE.1 J⟩
   by_cases U:t.tick<=p.dH
   case neg=>
    have bC:=ar @fF @bT;repeat' first
     |refine cO ?_
     |exact cR (k - 1) _ _ D ⟨i+1,rfl,h,D,λdE=>absurd dE.2 U⟩
   have nc:=nc ⟨J,U⟩;have hx:=ai.c1 (.i64) (i:=(i:Int)) D D;rw[dZ]at hx;have kv:=λs=>hb .i64 p.parts s hi;obtain ⟨oK,bb⟩:=jJ i hi;have dE:=hU.h;obtain ⟨Y,c,lC,aC,rfl,_,_,cd⟩:=Q8.c1 oK D;have cd:=cd .i64;obtain ⟨B,cm,bM,fV,fH,wl,Hb,fa⟩:=FJ.c1 (i:=(i:Int)) D (by rw[qY];omega);have fa:=fa .i64;have gY:∀s,bf 16 s (.fu (cm++bM))=some (.agg cm):=λs=>by rw[Db s D,l2 D]
   rw[dZ]at fV;have PM:(p.parts.getD i 0).toNat<m.parts.length:=D;have cQ:=mA PM;have aT:=zb cQ;rw[Bp oK]at aT;have hB:decide (p.c8<=t.tick)=true:=gi J;have j0:decide (t.tick<=p.dH)=true:=gi U;cases Y
   ·have xy:=acq (m:=m) aC;have bC:=ar @fF (ar @hx (ar @kv (ar @hJ (ar @cd (ar @bT (ar @hB @j0))))));repeat' first
     |refine cO ?_
     |exact cR (k - 1) _ _ D ⟨i+1,rfl,h,D,λ_=>lt_succ nc xy⟩
   ·have xy:=acp aC fV cQ;generalize m.parts[(p.parts.getD i 0).toNat]=P at*;have hle:=ar0 m t P;have aaW:=λ{z:V} (u:pN 167 (sK m t P) z)=>afe fH.lC u hle.1 hle.2;cases n7:xb B (sK m t P)
    ·have hk:(decide (t.tick<p.c8) || (decide (p.dH<t.tick) || (List.range p.parts.length).all (u6 m t p)))=false:=by
      rw[e3 D,e3 D,all_false hi (xy.trans n7)];rfl
     rw[hk];have bC:=ar @fF (ar @hx (ar @kv (ar @hJ (ar @cd (ar @fa (ar @gY (ar @nv (ar @lg (ar @hB @j0)))))))));repeat' first
      |refine cO ?_
      |refine g7 h aT λ_ u=>?_
      |refine iI h (aaW c3) (λ_ e=>?_);rw[n7]at e;subst e
      |exact dh h ae rfl ⟨_,rfl,rfl⟩
    ·have bC:=ar @fF (ar @hx (ar @kv (ar @hJ (ar @cd (ar @fa (ar @gY (ar @nv (ar @j6 (ar @bT (ar @hB @j0))))))))));repeat' first
      |refine cO ?_
      |refine g7 h aT λ_ u=>?_
      |refine iI h (aaW c3) (λ_ e=>?_);rw[n7]at e;subst e
      |exact cR (k - 1) _ _ D ⟨i+1,rfl,h,D,λ_=>lt_succ nc (xy.trans n7)⟩
  ·have uL:i=p.parts.length:=D;subst uL;have hk:(decide (t.tick<p.c8) || (decide (p.dH<t.tick) || (List.range p.parts.length).all (u6 m t p)))=true:=by
    by_cases J:t.tick<p.c8;rw[gi J];rfl;by_cases U:p.dH<t.tick;rw[gi U,Bool.or_comm];rfl;rw[all_true (nc ⟨D,D⟩),Bm,Bm]
   rw[hk];have bC:= @fF;repeat' first
    |refine cO ?_
    |exact dh h ae rfl ⟨_,rfl,rfl⟩) D,by simp[hm.a2,aO.A,av.a2]⟩
end
section
section
variable {ao s:S}{L cu:List b2}{Q:ax->Prop}
theorem yy{K:V->S->ct->ax}{e z l n:Nat}{te:cb}{x y:V}{cs d:List V}{r:Reach}{wl:List Nat}(h:aX ao s L)(u:ji L (.ca x e z l cs) cu)(aI:lk s z y n d)(ai:d.all bL=true)(ae:te.size=z)(Y:0<te.bytes)(hlen:(l+n)*te.bytes<=140737488355328)
  (H:∀v s' bs lo hi,aX ao s' (.ca v e z (l+n) (cs++d)::cu)->jF s' cu->aV Q (K v s' ⟨⟨r,some bs,lo,hi⟩,[]⟩)):aV Q (dp (e9 r (some wl) s (fD te e x y (aN s))) K):=by
 obtain ⟨v,s',w',hi,aC,dm,bk,aB,bb,hw⟩:=WV (e:=e) (r:=r) (w:=some wl) h.loc (h.ok _ u.mem) aI.bad (by rintro t rfl;cases aI;rename_i h;cases h) (aI.items ae) ai aI.cells ae Y hlen;obtain ⟨bs,rfl⟩:∃bs,w'=some bs:=by
  rcases hw with rfl|⟨rfl,_⟩
  exact ⟨_,rfl⟩;exact ⟨_,rfl⟩
 rw[aC,pX];have h':=h.app u dm bk aB bb;exact H _ _ _ _ _ h' h'.bX
theorem Cy{m:List Nat}{l:List ct}{k:ax}(a5:l.length=m.length)(h:kC m m.length [] 0 l)(h':aV Q k):aV Q (gZ (fe m l) k):=Fc (zV [] _ a5 h) h'
theorem aX.aN(h:aX ao s L):aX ao (X.aN s) L:=by
 refine ⟨⟨h.loc.n,h.loc.n,cg _⟩,λx hx=>?_,h.ju,h.old,h.n3⟩;exact (h.ok x hx).Tw (w:=s.n)
theorem Cr{P:V->Prop}{k:Int}{d:V}{e z l:Nat}{c:List V}(h:aX ao s L)(ae:ao.ag=ao.n)(u:b2.ca d e z l c∈L)(av:c.all atom=true)(al:∀bK,dz z bK l c->P (.da [bK,.int .i64 k])):aV (eE ao P) (bB ao s [some d,some (.int .i64 k)]):=by
 have dm:cl ao s e z d l c:=h.ok _ u;obtain ⟨bK,bb,J,U,rfl⟩:=dm.gl av;refine ⟨_,al bK U,E6 (l:=[d,.int .i64 k]) (.cons _ _ _ _ _ _ (.one _ _ _ J) (.cons _ _ _ _ _ _ (.one _ _ _ (.at _ rfl)) .nil)) (by show ¬(2:Nat)=1;decide) ae h.loc (λc aa=>?_)⟩;simp only[hd]at aa;exact (dm.lo aa).1
end
def Si(c5:List (Int×Int)):List V:=c5.flatMap λp=> [.int .i64 p.1,.int .i64 p.2]
theorem OY:∀c5:List (Int×Int),eX 2 l7 c5 (Si c5)
 |[]=>.nil
 |p::c5=>.cons p [.int .i64 p.1,.int .i64 p.2] c5 _ rfl rfl rfl (OY c5)
structure Jm(c5:List (Int×Int)):Prop where
 dM:3<=c5.length
 il:c5.length<=8
 b:∀x,x∈c5-> -1000<=x.1∧x.1<=1000∧ -1000<=x.2∧x.2<=1000
def zi:List (List (Int×Int)×Int):=[([(0,0),(4,0),(4,2),(0,2)],2),([(0,0),(2,0),(2,2),(0,2)],2),([(0,0),(4,0),(0,3)],0),([(0,0),(6,0),(3,4)],0),([(0,0),(8,0),(8,1),(4,4),(0,1)],0),([(0,0),(6,0),(6,1),(0,1)],1)]
theorem ads:∀x,x∈zi->Jm x.1∧0<=x.2∧x.2<=2:=by
 intro x hx;have h:(3<=x.1.length∧x.1.length<=8∧ ∀y,y∈x.1-> -1000<=y.1∧y.1<=1000∧ -1000<=y.2∧y.2<=1000)∧0<=x.2∧x.2<=2:=by
  revert x;decide
 exact ⟨⟨h.1.1,h.1.2.1,h.1.2.2⟩,h.2⟩
def Wv(v:V):Prop:= ∃c5 k d,v=.da [d,.int .i64 k]∧fY 2 l7 c5 d∧Jm c5∧0<=k∧k<=2
theorem Dz{x:List (Int×Int)×Int}(hx:x∈zi){d:V}{c:List V}(aa:c=Si x.1)(h:dz 2 d x.1.length c):Wv (.da [d,.int .i64 x.2]):=by
 subst aa;exact ⟨x.1,x.2,d,rfl,⟨_,h,OY _⟩,(ads x hx).1,(ads x hx).2⟩
attribute [local irreducible] jj bZ dp aF gZ cJ et c6 e9 eT aW aw cT bB e5 fD ef gv fl eV fe aV
theorem Ni{n m:Int}(a5:ez n)(aj:0<m)(aH:m<=1000000):cI 9 [.int .i64 n,.int .i64 m] (m3 λk=>0<=k∧k<m):=pC (oN n m a5.1 a5.2 aj D) rfl ⟨_,rfl,sZ aj⟩
theorem Ub{v:V}{l:List Int}(ad:bV .i64 v l)(E:∀x,x∈l->ez x){i m:Int}(aj:0<m)(aH:m<=1000000):cI 29 [v,.int .i64 i,.int .i64 m] (m3 λk=>0<=k∧k<m):=pC (JF ad E i m aj D) (fJ (bV.a2 ad)) ⟨_,rfl,zI aj⟩
theorem Nc{n:Int}(a5:ez n):cI 30 [.int .i64 n] Wv:=⟨λs ae au=>
 (agi (cv aS)).ee 0 (by
  show aV _ (NU a9 0 (.int .i64 n) s);unfold NU;simp only[cw];have h:=aX.nil ae au;have r:=h.bX;have k:=Ni a5 (m:=6) aS aS;refine g7 h k (λ_ ⟨k,e,aR,cF⟩=>?_);subst e;rcases (show k=0∨k=1∨k=2∨k=3∨k=4∨k=5 by omega) with rfl|rfl|rfl|rfl|rfl|rfl
  all_goals
   repeat' first
    |refine iG ?_
    |refine oT h rfl rfl λ_ _ h r=>?_
    |exact Cr h ae (.head _) rfl λbK ai=>Dz (x:=zi[0]) (tX ..) rfl ai
    |exact Cr h ae (.head _) rfl λbK ai=>Dz (x:=zi[1]) (tX ..) rfl ai
    |exact Cr h ae (.head _) rfl λbK ai=>Dz (x:=zi[2]) (tX ..) rfl ai
    |exact Cr h ae (.head _) rfl λbK ai=>Dz (x:=zi[3]) (tX ..) rfl ai
    |exact Cr h ae (.head _) rfl λbK ai=>Dz (x:=zi[4]) (tX ..) rfl ai
    |exact Cr h ae (.head _) rfl λbK ai=>Dz (x:=zi[5]) (tX ..) rfl ai) D,rfl⟩
end
end Go.ah.X
