/-
  A part: lemmas; conditions: those that each names.
-/
import Derived.Test.YtalmddmghdinkaaGreatDoorW
set_option linter.all false
set_option linter.deprecated false
noncomputable section
set_option maxHeartbeats 8000000
set_option maxRecDepth 20000
namespace Go.ah.X
open Go Go.ah Go.Proofs.dI
section
attribute [local irreducible] bZ dp aF gZ cJ et c6 e9 eT aW aw cT bB e5 fD ef gv fl eV fe aV
def Nm(P:List Int->Prop)(n:Nat)(cs:List V):Prop:= ∃l,n=l.length∧cs=fp l∧P l
theorem abI{f:Nat}{args:List V}{P:List Int->Prop}(h:∀s:S,s.ag=s.n->l4 s->l5 s 3 .i64 P (a9 f args s))(av:args.all ep=true):wV f args 3 1 (Nm P):=
 ⟨λs ae au=>let ⟨l,al,a5⟩:=h s ae au;⟨l.length,_,⟨l,rfl,rfl,al⟩,by simp,a5⟩,av⟩
theorem aaM{v w:V}{a b:List Int}(ad:bV .i64 v a)(hw:bV .i64 w b): [v,w].all ep=true:=by simp[dz.ep ad,dz.ep hw]
theorem aeZ(neg:Bool){v:V}{l:List Int}(ad:bV .i64 v l)(ai:ea l)(hlen:l.length<=1000000000):cI 192 ([.bool neg]++v:: []) (nC λa b=>bN (eA neg (a0 l)) (.agg [a,b])):=
 oq (zN neg ad hlen) (df rfl ad.a2) λ_ h=>let ⟨d,e,h'⟩:=h.2 ai;⟨_,_,e,d,e ▸ rfl,h'⟩
theorem Ea(neg:Bool){u:Int}(aR:0<=u)(hu:u<18446744073709551616):cI 194 [.bool neg,.int .u64 u] (nC λa b=>bN (eA neg u) (.agg [a,b])):=by
 have:=EH neg u.toNat D;rw[Bp aR]at this;exact oq this rfl λ_ ⟨d,e,h'⟩=>⟨_,_,e,d,e ▸ rfl,h'⟩
section
variable {x y:Int}{a b c d:V}
theorem bN.cs(h:bN x (.agg [a,b])):a=.bool (decide (x<0))∧bV .i64 b (aL x.natAbs):=by
 obtain ⟨d,he,h⟩:=h;cases he;exact ⟨rfl,h⟩
theorem bN.mk'{p:Bool}(al:p=decide (x<0))(h:bV .i64 b (aL x.natAbs)):bN x (.agg [.bool p,b]):=⟨b,by rw[al],h⟩
theorem bN.c0(h:bN x (.agg [a,b])):([a,b]:List V).all bL=true:=dB h.A
theorem zd(x:Int):(aL x.natAbs).length=0↔x=0:=by
 constructor;intro h;have:=xN (vq.1 h);omega;rintro rfl;rw[show (0:Int).natAbs=0 from rfl,jm];rfl
theorem ae0(J:bN x (.agg [a,b])):cI 197 [.agg [a,b]] (nC λa b=>bN (-x) (.agg [a,b])):=⟨λs ae au=>
 (Vq (cv aS)).ee 0 (by
  show aV _ (Ix a9 0 (.agg [a,b]) s);unfold Ix;simp only[cw];have h:=aX.nil ae au;have r:=h.bX;obtain ⟨rfl,ai⟩:=J.cs;have aY:=zd x;have iL:∀p:Bool,p=decide (-x<0)->bN (-x) (.agg [.bool p,b]):=λp al=>.mk' al (by rw[D1];exact ai);by_cases a5:x<0
  ·rw[gi a5];have aM:=iL false (by rw[eq_comm,decide_eq_false_iff_not];omega);have bC:=ar @ai.len (ar @o8 @j6);repeat' first
    |refine gV ?_
    |refine cf h λ_ _ h r=>?_
    |refine p1 h cj rfl (λ_ h r=>?_)
    |refine c9 h cj (λ_ h r=>?_) (hx:=aM.c0)
    |exact dh h ae aM.A ⟨_,_,rfl,aM⟩
  ·rw[e3 a5];by_cases aR:x=0
   ·have aM:=iL false (by rw[eq_comm,decide_eq_false_iff_not];omega);have Z:=aY.2 aR;have bC:=ar @ai.len (ar @o8 (ar @lg @Z));repeat' first
     |refine gV ?_
     |refine cf h λ_ _ h r=>?_
     |refine p1 h cj rfl (λ_ h r=>?_)
     |refine c9 h cj (λ_ h r=>?_) (hx:=aM.c0)
     |exact dh h ae aM.A ⟨_,_,rfl,aM⟩
   ·have aM:=iL true (by rw[eq_comm,decide_eq_true_iff];omega);have Z:=λh=>aR (aY.1 h);have al:decide (0<((aL x.natAbs).length:Int))=true:=gi D;have bC:=ar @ai.len (ar @o8 (ar @lg @al));repeat' first
     |refine gV ?_
     |refine cf h λ_ _ h r=>?_
     |refine p1 h cj rfl (λ_ h r=>?_)
     |refine c9 h cj (λ_ h r=>?_) (hx:=aM.c0)
     |exact dh h ae aM.A ⟨_,_,rfl,aM⟩) D,fJ J.A⟩
theorem D9(hx:ez x):cI 182 [.int .i64 x] (nC λa b=>bN x (.agg [a,b])):=⟨λs ae au=>
 (Vh (cv aS)).ee 0 (by
  show aV _ (Io a9 0 (.int .i64 x) s);unfold Io;simp only[cw];have h:=aX.nil ae au;have r:=h.bX;have Lq:=hx.1;have aaD:=hx.2;by_cases a5:x<0
  ·have aC:IntKind.u64.wrap x=x+18446744073709551616:=by simp[IntKind.wrap,IntKind.bits,IntKind.signed];omega
   have ba:IntKind.u64.wrap (-(x+18446744073709551616))= -x:=by simp[IntKind.wrap,IntKind.bits,IntKind.signed];omega
   have k4:eA true (-x)=x:=by unfold eA;simp
   have bC:=ar @vC (ar @G6 (ar @aC (ar @Int.zero_sub (ar @ba (gi a5)))));repeat' first
    |refine gV ?_
    |refine cf h λ_ _ h r=>?_
    |refine ka h (Ea true (u:= -x) D D) λ_ _ q=>?_
    |refine c9 h (.here _ _ _) (λ_ h r=>?_) (hx:=q.c0)
    |exact dh h ae q.A ⟨_,_,rfl,by rwa [k4]at q⟩
  ·have aC:IntKind.u64.wrap x=x:=by simp[IntKind.wrap,IntKind.bits,IntKind.signed];omega
   have k4:eA false x=x:=rfl;have bC:=ar @vC (ar @aC (e3 a5));repeat' first
    |refine gV ?_
    |refine cf h λ_ _ h r=>?_
    |refine ka h (Ea false (u:=x) D D) λ_ _ q=>?_
    |refine c9 h (.here _ _ _) (λ_ h r=>?_) (hx:=q.c0)
    |exact dh h ae q.A ⟨_,_,rfl,by rwa [k4]at q⟩) D,fJ rfl⟩
theorem ae3:cI 202 [] (nC λa b=>bN 1 (.agg [a,b])):=⟨λs ae au=>
 (Vv (cv aS)).ee 0 (by
  show aV _ (IC a9 0 s);unfold IC;simp only[cw];have h:=aX.nil ae au;have r:=h.bX;repeat' first
   |refine kt ?_
   |refine cf h λ_ _ h r=>?_
   |refine ka h (D9 (x:=1) (by unfold ez;omega)) λ_ _ q=>?_
   |refine c9 h (.here _ _ _) (λ_ h r=>?_) (hx:=q.c0)
   |exact dh h ae q.A ⟨_,_,rfl,q⟩) D,rfl⟩
theorem Hu{X bJ:Nat}(ad:bV .i64 a (aL X))(hw:bV .i64 b (aL bJ))(Z:(aL X).length<=1000000000):cI 200 [a,b] (m3 (·=e8 X bJ)):=pC (EI ad hw Z) (df ad.a2 hw.a2) ⟨_,rfl,rfl⟩
theorem T5(J:bN x (.agg [a,b]))(U:bN y (.agg [c,d]))(Z:(aL x.natAbs).length<=1000000)(dK:(aL y.natAbs).length<=1000000):cI 185 [.agg [a,b],.agg [c,d]] (m3 (·=e8 x y)):=⟨λs ae au=>
 (Vk (cv aS)).ee 0 (by
  show aV _ (Ir a9 0 (.agg [a,b]) (.agg [c,d]) s);unfold Ir;simp only[cw];have h:=aX.nil ae au;have r:=h.bX;obtain ⟨rfl,ai⟩:=J.cs;obtain ⟨rfl,he⟩:=U.cs;by_cases hx:x<0<;>by_cases aI:y<0
  ·rw[gi hx,gi aI];have bC:= @o3;repeat' first
    |refine gV ?_
    |refine cf h λ_ _ h r=>?_
    |refine gr h (Hu he ai D) λ_ e=>?_
    |exact dh h ae rfl ⟨_,rfl,e.trans (by unfold e8;(repeat' split)<;>omega)⟩
  ·rw[gi hx,e3 aI];have bC:= @o3;repeat' first
    |refine gV ?_
    |refine cf h λ_ _ h r=>?_
    |exact dh h ae rfl ⟨_,rfl,by unfold e8;(repeat' split)<;>omega⟩
  ·rw[e3 hx,gi aI];have bC:= @o3;repeat' first
    |refine gV ?_
    |refine cf h λ_ _ h r=>?_
    |exact dh h ae rfl ⟨_,rfl,by unfold e8;(repeat' split)<;>omega⟩
  ·rw[e3 hx,e3 aI];have bC:= @o3;repeat' first
    |refine gV ?_
    |refine cf h λ_ _ h r=>?_
    |refine gr h (Hu ai he D) λ_ e=>?_
    |exact dh h ae rfl ⟨_,rfl,e.trans (by unfold e8;(repeat' split)<;>omega)⟩) D,df J.A U.A⟩
theorem ae1{X bJ:Nat}(ad:bV .i64 a (aL X))(hw:bV .i64 b (aL bJ))(Z:(aL X).length<=1000000)(dK:(aL bJ).length<=1000000):wV 199 [a,b] 3 1 (Nm λl=>ea l∧a0 l=(X:Int)+bJ∧l.length<=1000001):=
 abI (λs ae au=>by have:=aik ad hw (gK _) (gK _) Z dK s ae au;rwa [gq,gq]at this) (aaM ad hw)
theorem T8{X bJ:Nat}(ad:bV .i64 a (aL X))(hw:bV .i64 b (aL bJ))(Z:(aL X).length<=1000000)(dK:(aL bJ).length<=1000000)(aR:0<X)(hle:bJ<=X):wV 201 [a,b] 3 1 (Nm λl=>ea l∧a0 l=(X:Int) - bJ∧l.length<=1000001):=
 abI (λs ae au=>by
  obtain ⟨l,⟨J,U,aj⟩,aH⟩:=JE ad hw (gK _) (gK _) Z dK (Hn.2 (AL D)) (by rw[gq,gq];omega) s ae au;rw[gq,gq]at U;exact ⟨l,⟨J,U,D⟩,aH⟩) (aaM ad hw)
theorem T4(J:bN x (.agg [a,b]))(U:bN y (.agg [c,d]))(Z:(aL x.natAbs).length<=1000000)(dK:(aL y.natAbs).length<=1000000):cI 178 [.agg [a,b],.agg [c,d]] (nC λa b=>bN (x+y) (.agg [a,b])):=⟨λs ae au=>
 (Vd (cv aS)).ee 0 (by
  show aV _ (Ij a9 0 (.agg [a,b]) (.agg [c,d]) s);unfold Ij;simp only[cw];have h:=aX.nil ae au;have r:=h.bX;obtain ⟨rfl,ai⟩:=J.cs;obtain ⟨rfl,he⟩:=U.cs;have fin:∀ {n:Nat} {m:Int} {l:List Int} (_:n=l.length) (_:ea l∧a0 l=m∧l.length<=1000001) (neg:Bool) (_:eA neg m=x+y),∀v,dz 1 v n (fp l)->cI 192 ([.bool neg]++v:: []) (nC λa b=>bN (x+y) (.agg [a,b])):=by
   rintro _ _ l rfl ⟨e1,ei,fG⟩ neg k4 v ad;have:=aeZ neg (v:=v) (l:=l) ad e1 D
   rwa [ei,k4]at this
  by_cases hU:decide (x<0)=decide (y<0)
  ·have k4:eA (decide (y<0)) ((x.natAbs:Int)+y.natAbs)=x+y:=by
    have h:=decide_eq_decide.1 hU;unfold eA;by_cases aI:y<0<;>simp[aI]<;>omega
   rw[hU]at J ⊢;have bC:=ar @xf ((@eq_self Bool));repeat' first
    |refine gV ?_
    |refine cf h λ_ _ h r=>?_
     |refine Fe h (ae1 ai he D D) λv n cs _ _ _ ⟨l,aC,ba,al⟩ h r=>?_
     |refine zY [.bool _] [] h (.here _ _) (ba ▸ lR _ _) rfl rfl (λv ad=>fin aC al _ k4 v (ba ▸ ad)) (λ_ _ _ _ ⟨a,b,e,q⟩ h r aY=>?_);subst e
     |refine fN h (.here _ _ _) (λ_ _ h r=>?_) (hx:=q.c0)
     |refine Fc (zV (b4 v) 9 rfl (.eY (.eY (.eY (.eY (.eY (.eY (.eY (.lL (λ_ h=>h) (.oO (.inr ⟨_,rfl,aY _ (.head _)⟩) aS trivial)))))))))) ?_
     |exact dh h ae q.A ⟨_,_,rfl,q⟩
  ·have aaF: ¬(x<0↔y<0):=λh=>hU (decide_eq_decide.2 h);by_cases b6:x.natAbs<y.natAbs
   ·have aa:e8 (x.natAbs:Int) (y.natAbs:Int)<0:=by unfold e8;rw[if_pos D];omega
    have k4:eA (decide (y<0)) ((y.natAbs:Int) - x.natAbs)=x+y:=by
     unfold eA;by_cases aI:y<0<;>simp[aI]<;>omega
    have bC:=ar @xf (e3 hU);repeat' first
     |refine gV ?_
     |refine cf h λ_ _ h r=>?_
     |refine gr h (Hu ai he D) λ_ e=>?_;subst e
     |refine Fe h (T8 he ai D D D D) λv n cs _ _ _ ⟨l,aC,ba,al⟩ h r=>?_
     |refine zY [.bool _] [] h (.here _ _) (ba ▸ lR _ _) rfl rfl (λv ad=>fin aC al _ k4 v (ba ▸ ad)) (λ_ _ _ _ ⟨a,b,e,q⟩ h r aY=>?_);subst e
     |refine fN h (.here _ _ _) (λ_ _ h r=>?_) (hx:=q.c0)
     |refine Fc (zV (b4 v) 9 rfl (.eY (.eY (.eY (.eY (.eY (.eY (.eY (.lL (λ_ h=>h) (.oO (.inr ⟨_,rfl,aY _ (.head _)⟩) aS trivial)))))))))) ?_
     |exact dh h ae q.A ⟨_,_,rfl,q⟩
   ·have aa: ¬e8 (x.natAbs:Int) (y.natAbs:Int)<0:=by unfold e8;(repeat' split)<;>omega
    have k4:eA (decide (x<0)) ((x.natAbs:Int) - y.natAbs)=x+y:=by
     unfold eA;by_cases hx:x<0<;>simp[hx]<;>omega
    have bC:=ar @xf (e3 hU);repeat' first
     |refine gV ?_
     |refine cf h λ_ _ h r=>?_
     |refine gr h (Hu ai he D) λ_ e=>?_;subst e
     |refine Fe h (T8 ai he D D D D) λv n cs _ _ _ ⟨l,aC,ba,al⟩ h r=>?_
     |refine zY [.bool _] [] h (.here _ _) (ba ▸ lR _ _) rfl rfl (λv ad=>fin aC al _ k4 v (ba ▸ ad)) (λ_ _ _ _ ⟨a,b,e,q⟩ h r aY=>?_);subst e
     |refine fN h (.here _ _ _) (λ_ _ h r=>?_) (hx:=q.c0)
     |refine Fc (zV (b4 v) 9 rfl (.eY (.eY (.eY (.eY (.eY (.eY (.eY (.lL (λ_ h=>h) (.oO (.inr ⟨_,rfl,aY _ (.head _)⟩) aS trivial)))))))))) ?_
     |exact dh h ae q.A ⟨_,_,rfl,q⟩) D,df J.A U.A⟩
end
end
section
section
variable {ao s:S}{L cu:List b2}{Q:ax->Prop}
def Jj(P eR:V->V->Prop)(v:V):Prop:= ∃a b c d,v=.da [.agg [a,b],.agg [c,d]]∧P a b∧eR c d
theorem Kt{K:V->S->ax}{aP st:Bool}{f:Nat}{args:List V}{P eR:V->V->Prop}(h:aX ao s L)(aa:cI f args (Jj P eR))(H:∀a b c d,P a b->eR c d->aV Q (K (.da [.agg [a,b],.agg [c,d]]) s)):aV Q (bZ (cJ a9 aP st (.fn f [] []) args s) K):=
 g7 h aa λv ⟨a,b,c,d,e,al,uT⟩=>e ▸ H a b c d al uT
def El(P eR:V->V->V->V->Prop)(v:V):Prop:= ∃a b c d a8 a4 bj bK,v=.da [.agg [a,b,c,d],.agg [a8,a4,bj,bK]]∧P a b c d∧eR a8 a4 bj bK
theorem YN{K:V->S->ax}{aP st:Bool}{f:Nat}{args:List V}{P eR:V->V->V->V->Prop}(h:aX ao s L)(aa:cI f args (El P eR))(H:∀a b c d a8 a4 bj bK,P a b c d->eR a8 a4 bj bK->aV Q (K (.da [.agg [a,b,c,d],.agg [a8,a4,bj,bK]]) s)):aV Q (bZ (cJ a9 aP st (.fn f [] []) args s) K):=
 g7 h aa λv ⟨a,b,c,d,a8,a4,bj,bK,e,al,uT⟩=>e ▸ H a b c d a8 a4 bj bK al uT
theorem nJ{P:V->Prop}{u v:V}(h:aX ao s L)(ae:ao.ag=ao.n)(hu:ep u=true)(ad:ep v=true)(al:P (.da [u,v])):aV (eE ao P) (bB ao s [some u,some v]):=
 ⟨_,al,xh (by show (ep u && (ep v && true))=true;rw[hu,ad];rfl) D h.loc.eK⟩
end
attribute [local irreducible] bZ dp aF gZ cJ et c6 e9 eT aW aw cT bB e5 fD ef gv fl eV fe aV
theorem abN{X:Nat}(aR:0<X)(h:X<1000000000):aL X=[(X:Int)]:=by
 rw[tJ D,show X / 1000000000=0 by omega,jm,show X % 1000000000=X by omega]
section
variable {x y:Int}{a b c d:V}
theorem ya(J:bN x (.agg [a,b]))(U:bN y (.agg [c,d]))(hx:x≠0)(aI:y≠0)(Z:x.natAbs<1000000000)(dK:y.natAbs<1000000000):cI 181 [.agg [a,b],.agg [c,d]] (nC λa b=>bN (x*y) (.agg [a,b])):=⟨λs ae au=>
 (Vg (cv aS)).ee 0 (by
  show aV _ (Im a9 0 (.agg [a,b]) (.agg [c,d]) s);unfold Im;simp only[cw];have h:=aX.nil ae au;have r:=h.bX;obtain ⟨rfl,ai⟩:=J.cs;obtain ⟨rfl,he⟩:=U.cs;rw[abN D Z]at ai;rw[abN D dK]at he;have kv:fP b=some (.int .i64 1):=ai.len;have hle:fP d=some (.int .i64 1):=he.len;have F8:dW 1 b (.int .i64 0)=some (.fu [.int .i64 x.natAbs]):=ai.c1 .i64 D (by simp);have anD:dW 1 d (.int .i64 0)=some (.fu [.int .i64 y.natAbs]):=he.c1 .i64 D (by simp);have Y:=Gs (a:=(x.natAbs:Int)) (b:=(y.natAbs:Int)) D D;have k4:=adq x y;generalize hm:(x.natAbs:Int)*y.natAbs=m at*;have bC:=ar @kv (ar @hle (ar @Gw (ar @F8 (ar @anD (ar @hJ (ar @vC (ar @Bg @hm)))))));repeat' first
   |refine gV ?_
   |refine cf h λ_ _ h r=>?_
   |refine iH h (Ea _ (u:=m) D D) λ_ _ q=>?_
   |refine fN h (.here _ _ _) (λ_ _ h r=>?_) (hx:=q.c0)
   |exact dh h ae q.A ⟨_,_,rfl,by rwa [k4]at q⟩) D,df J.A U.A⟩
theorem T6{v:V}{X:Nat}(ad:bV .i64 v (aL X))(g8:(aL X).length<=2):cI 193 [v] (λr=>r=.da [.int .i64 X,.bool true]):=by
 have:=EG ad (gK X);rw[if_pos g8,gq]at this;exact pC this (fJ ad.a2) rfl
theorem T7{X bJ:Nat}(ad:bV .i64 a (aL X))(hw:bV .i64 b (aL bJ))(g8:(aL X).length<=2)(n4:(aL bJ).length<=2)(aR:0<bJ):cI 195 [a,b] (Jj (λa b=>bN ((X / bJ:Nat):Int) (.agg [a,b])) λa b=>bN ((X % bJ:Nat):Int) (.agg [a,b])):=⟨λs ae au=>
 (Np (cv aS)).ee 0 (by
  show aV _ (BD a9 0 a b s);unfold BD;simp only[cw];have h:=aX.nil ae au;have r:=h.bX;have J:=wG g8;have U:=wG n4;have aj:X / bJ<=X:=sR _ _;have aH:X % bJ<bJ:=x5 _ aR;have aC:(X:Int) / bJ=((X / bJ:Nat):Int):=rfl;have ba:(X:Int) % bJ=((X % bJ:Nat):Int):=rfl;generalize a7:X / bJ=q at*;generalize E:X % bJ=t at*;have bC:=ar @aC (ar @ba (ar @vC (ar @Bg @bT)));repeat' first
   |refine gV ?_
   |refine cf h λ_ _ h r=>?_
   |refine g7 h (T6 ad g8) (λ_ e=>?_);subst e
   |refine g7 h (T6 hw n4) (λ_ e=>?_);subst e
   |refine iH h (Ea false (u:=q) D D) λ_ _ u=>?_
   |refine iH h (Ea false (u:=t) D D) λ_ _ w=>?_
   |refine fN h cj (λ_ _ h r=>?_) (hx:=u.c0)
   |refine fN h cj (λ_ _ h r=>?_) (hx:=w.c0)
   |exact nJ h ae u.A w.A ⟨_,_,_,_,rfl,u,w⟩) D,df ad.a2 hw.a2⟩
theorem T9(J:bN x (.agg [a,b]))(U:bN y (.agg [c,d]))(Z:(aL x.natAbs).length<=2)(dK:(aL y.natAbs).length<=2)(aI:0<y)(E:x.natAbs % y.natAbs=0):cI 203 [.agg [a,b],.agg [c,d]] (Jj (λa b=>bN (x / y) (.agg [a,b])) λ_ _=>True):=⟨λs ae au=>
 (Vw (cv aS)).ee 0 (by
  show aV _ (ID a9 0 (.agg [a,b]) (.agg [c,d]) s);unfold ID;simp only[cw];have h:=aX.nil ae au;have r:=h.bX;obtain ⟨rfl,ai⟩:=J.cs;obtain ⟨rfl,he⟩:=U.cs;have KO:y.natAbs ∣ x.natAbs:=Nat.dvd_of_mod_eq_zero E;have CM:=E3 (p:=x) (G:=y.natAbs) D KO;rw[show ((y.natAbs:Nat):Int)=y by omega]at CM;have C2: ¬(aL y.natAbs).length=0:=λh=>by have:=(zd y).1 h;omega
  have Rr:decide (y<0)=false:=e3 D;rw[Rr];have xz:=zd ((x.natAbs / y.natAbs:Nat):Int);rw[fb]at xz;have CK:∀ {b:V} (p:Bool),bV .i64 b (aL (x.natAbs / y.natAbs))->p=decide (x / y<0)->bN (x / y) (.agg [.bool p,b]):=λp Y al=>.mk' al (by rw[CM.1];exact Y);have aY:(aL (x.natAbs % y.natAbs)).length=0:=by rw[E,jm];rfl
  have ZA:∀n:Nat,decide ((n:Int)<0)=false:=λn=>e3 D;have alW:(x<0∧0<x.natAbs / y.natAbs)∨(¬x<0):=by
   rcases (show x<0∨ ¬x<0 by omega) with hx|hx
   exact .inl ⟨hx,by have:=CM.1;have:=CM.2.2 hx;omega⟩;exact .inr hx
  rcases alW with ⟨hx,a7⟩|hx
  ·have QY:decide (x / y<0)=true:=gi (CM.2.2 hx);have Aq:decide (0<((aL (x.natAbs / y.natAbs)).length:Int))=true:=gi (by have:=λh=>xz.1 h;omega);rw[gi hx];have bC:=ar @he.len (ar @o3 @ZA);repeat' first
    |refine gV ?_
    |refine cf h λ_ _ h r=>?_
    |refine Kt h (T7 ai he Z dK D) λ_ _ _ _ u w=>?_;obtain ⟨rfl,hu⟩:=u.cs;obtain ⟨rfl,hw⟩:=w.cs;rw[fb]at hu hw;have CV:=hu.len;have tw:=hw.len;rw[aY]at tw
    |refine c9 h cj (λ_ h r=>?_) (hx:=by repeat first|exact rfl|refine uj rfl ?_|refine uj (dz.bL c3) ?_)
   have aM:=CK true hu QY.symm;have bC:=ar @CV (ar @tw (ar @o3 @Aq));repeat' first
    |refine gV ?_
    |refine p1 h cj rfl (λ_ h r=>?_)
    |refine fN h cj (λ_ _ h r=>?_) (hx:=by repeat first|exact rfl|refine uj rfl ?_|refine uj (dz.bL c3) ?_)
    |refine pj ?_
    |exact nJ h ae aM.A w.A ⟨_,_,_,_,rfl,aM,trivial⟩
  ·have QY:decide (x / y<0)=false:=e3 (λh=>hx (CM.2.1 h));rw[e3 hx];have bC:=ar @he.len (ar @o3 @ZA);repeat' first
    |refine gV ?_
    |refine cf h λ_ _ h r=>?_
    |refine Kt h (T7 ai he Z dK D) λ_ _ _ _ u w=>?_;obtain ⟨rfl,hu⟩:=u.cs;obtain ⟨rfl,hw⟩:=w.cs;rw[fb]at hu hw;have CV:=hu.len;have tw:=hw.len;rw[aY]at tw
    |refine c9 h cj (λ_ h r=>?_) (hx:=by repeat first|exact rfl|refine uj rfl ?_|refine uj (dz.bL c3) ?_)
   have aM:=CK false hu QY.symm;have bC:=ar @CV (ar @tw @o3);repeat' first
    |refine gV ?_
    |refine p1 h cj rfl (λ_ h r=>?_)
    |refine fN h cj (λ_ _ h r=>?_) (hx:=by repeat first|exact rfl|refine uj rfl ?_|refine uj (dz.bL c3) ?_)
    |refine pj ?_
    |exact nJ h ae aM.A w.A ⟨_,_,_,_,rfl,aM,trivial⟩) D,df J.A U.A⟩
end
end
section
attribute [local irreducible] bZ dp aF gZ cJ et c6 e9 eT aW aw cT bB e5 fD ef gv fl eV fe aV
section
variable {A B fi B' n:Nat}{x y z:Rat}{a b c d a8 a4 bj bK:V}{p q:Int}
theorem db.hE(h:db A B x a b c d)(gW:A<1000000000:=by omega)(fE:B<1000000000:=by omega):cH 1 x a b c d:=⟨h.1,nm (by have:=h.2.1;omega),nm (by have:=h.2.2;omega)⟩
theorem db.atoms(h:db A B x a b c d):([a,b,c,d]:List V).all atom=true:=h.1.a2
theorem db.pV(h:db A B x a b c d):X.a2 (.agg [a,b,c,d])=true:=h.1.a2
theorem db.mono(h:db A B x a b c d)(gW:A<=fi)(fE:B<=B'):db fi B' x a b c d:=⟨h.1,gb h.2.1 gW,gb h.2.2 fE⟩
theorem kZ.cs(h:kZ x (.agg [a,b,c,d])):a=.bool (decide (x.num<0))∧bV .i64 b (aL x.num.natAbs)∧c=.bool false∧bV .i64 d (j3 x.den):=by
 obtain ⟨d1,aC,he,ai,mi⟩:=h;cases he;exact ⟨rfl,ai,rfl,mi⟩
theorem kZ.num(h:kZ x (.agg [a,b,c,d])):bN x.num (.agg [a,b]):=by
 obtain ⟨rfl,h,_⟩:=h.cs;exact ⟨_,rfl,h⟩
theorem pd.fh{m n:Nat}{r:V}(h:pd p q m n r)(a7:q≠0)(hx:(p:Rat) / (q:Rat)=x)(hm:m<=A)(a5:n<=B):jh (db A B x) r:=by
 obtain ⟨J,U,aj⟩:=h.rt a7;rw[hx]at J U aj;obtain ⟨d,e,rfl,ai,he⟩:=J;exact ⟨_,_,_,_,rfl,⟨d,e,rfl,ai,he⟩,D,D⟩
theorem Hs(h:bN p (.agg [a,b]))(Z:(aL p.natAbs).length<=1000000):cI 158 [.agg [a,b]] (lj (·=decide (p=1))):=by
 obtain ⟨d,he,ai⟩:=h;cases he;exact pC (aid (neg:=decide (p<0)) ⟨_,rfl,ai⟩ D) (fJ (by show (true && (X.atom b && true))=true;rw[bV.atom ai];rfl)) ⟨_,rfl,ab4 p⟩
theorem aeM(h:bN p (.agg [a,b]))(h':bN q (.agg [c,d]))(Z:(aL p.natAbs).length<=1000000)(dK:(aL q.natAbs).length<=1000000):cI 159 [.agg [a,b],.agg [c,d]] (nC λa b=>bN ((Nat.gcd p.natAbs q.natAbs:Nat):Int) (.agg [a,b])):=
 oq (aie h h' Z dK) (df h.A h'.A) λ_ ⟨d,e,h'⟩=>⟨_,_,e,d,e ▸ rfl,h'⟩
theorem Nb{k:Nat}(J:bN p (.agg [a,b]))(U:bN (k:Int) (.agg [c,d]))(hk:0<k)(Z:(aL k).length<=1000000):cI 198 [.agg [a,b],.agg [c,d]] (jh λa b c d=>jf p k (.agg [a,b,c,d])):=⟨λs ae au=>
 (Vr (cv aS)).ee 0 (by
  show aV _ (Iy a9 0 (.agg [a,b]) (.agg [c,d]) s);unfold Iy;simp only[cw];have h:=aX.nil ae au;have r:=h.bX;have jW:=U;obtain ⟨rfl,ai⟩:=J.cs;obtain ⟨rfl,he⟩:=U.cs;rw[show decide ((k:Int)<0)=false from e3 D]at*;rw[fb]at he;by_cases FI:(k:Int)=1
  ·have E:jf p k (.agg [.bool (decide (p<0)),b,.bool false,.af]):=⟨b,.af,rfl,ai,by unfold j3;rw[if_pos D];exact bV.nil _⟩;repeat' first
    |refine kt ?_
    |refine cf h λ_ _ h r=>?_
    |refine iI h (Hs jW (by rw[fb];omega)) λ_ e=>?_;subst e
    |refine c9 h (.here _ _ _) (λ_ h r=>?_) (hx:=dB E.atoms)
    |exact dh h ae E.atoms ⟨_,_,_,_,rfl,E⟩
  ·have E:jf p k (.agg [.bool (decide (p<0)),b,.bool false,d]):=⟨b,d,rfl,ai,by unfold j3;rw[if_neg D];exact he⟩;repeat' first
    |refine kt ?_
    |refine cf h λ_ _ h r=>?_
    |refine iI h (Hs jW (by rw[fb];omega)) λ_ e=>?_;subst e
    |refine c9 h (.here _ _ _) (λ_ h r=>?_) (hx:=dB E.atoms)
    |exact dh h ae E.atoms ⟨_,_,_,_,rfl,E⟩) D,df J.A U.A⟩
theorem Ht{k:Nat}(J:bN p (.agg [a,b]))(U:bN (k:Int) (.agg [c,d]))(hk:0<k)(Z:(aL p.natAbs).length<=2)(dK:(aL k).length<=2):cI 180 [.agg [a,b],.agg [c,d]] (pd p k p.natAbs k):=⟨λs ae au=>
 (Vf (cv aS)).ee 0 (by
  show aV _ (Il a9 0 (.agg [a,b]) (.agg [c,d]) s);unfold Il;simp only[cw];have h:=aX.nil ae au;have r:=h.bX;have iT:=J;have jW:=U;obtain ⟨rfl,ai⟩:=J.cs;obtain ⟨rfl,he⟩:=U.cs;rw[show decide ((k:Int)<0)=false from e3 D]at*;rw[fb]at he;have Al: ¬(aL k).length=0:=λh=>by have:=xN (vq.1 h);omega
  have La:=zd p;by_cases al:p=0
  ·have xx:=La.2 al;have bC:=ar @ai.len @he.len;repeat' first
    |refine gV ?_
    |refine cf h λ_ _ h r=>?_
    |refine c9 h (.here _ _ _) (λ_ h r=>?_)
    |exact dh h ae rfl ⟨0,1,⟨D,rfl⟩,⟨.af,.af,rfl,by rw[show (0:Int).natAbs=0 from rfl,jm];exact bV.nil _,bV.nil _⟩,by simp,D,λ_=>by rw[al];simp⟩
  ·have xx:=λh=>al (La.1 h);have yG:Nat.gcd p.natAbs k ∣ p.natAbs:=Nat.gcd_dvd_left _ _;have xm:Nat.gcd p.natAbs k ∣ k:=Nat.gcd_dvd_right _ _;have xl:0<Nat.gcd p.natAbs k:=Nat.gcd_pos_of_pos_left _ D;have Qa:=Nat.coprime_div_gcd_div_gcd (m:=p.natAbs) (n:=k) xl;have YV:=oi (Nat.le_of_dvd hk xm);have au:=aeM iT jW D (by rw[fb];omega);rw[fb]at au;generalize Nat.gcd p.natAbs k=G at*;obtain ⟨nN,tr⟩:=E3 xl yG;obtain ⟨uU,QW⟩:=E3 (p:=(k:Int)) xl (by rwa [fb]);rw[fb]at uU;have amv:(k:Int) / (G:Int)=((k / G:Nat):Int):=D;have ZW:0<k / G:=Nat.div_pos (Nat.le_of_dvd hk xm) xl;have iL:∀r,jf (p / (G:Int)) (k / G) r->pd p k p.natAbs k r:=λr E=>⟨_,_,⟨ZW,by rw[nN];exact Qa⟩,E,by rw[nN];exact sR _ _,sR _ _,λ_=>by
    have t1:=E2 yG;have t2:((k / G:Nat):Int)*(G:Int)=k:=by rw[<-wO,Nat.div_mul_cancel xm]
    generalize p / (G:Int)=b3 at*;generalize ((k / G:Nat):Int)=W at*;rw[<-t1,<-t2]
    grind⟩
   have auC:=oi (sR k G);by_cases ak5:(G:Int)=1
   ·have ajB:G=1:=D;subst ajB;rw[show ((1:Nat):Int)=1 from rfl,Int.ediv_one,Nat.div_one]at iL;have bC:=ar @ai.len (ar @he.len (ar @o8 (ar (show decide (((1:Nat):Int)=1)=true from rfl) @j6)));repeat' first
     |refine gV ?_
     |refine cf h λ_ _ h r=>?_
     |refine ka h au λ_ _ g=>?_
     |refine c9 h (.here _ _ _) (λ_ h r=>?_) (hx:=g.c0)
     |refine iI h (Hs g (by rw[fb];omega)) λ_ e=>?_;subst e
     |refine lp h (Nb iT jW hk D) λ_ _ _ _ u=>?_
     |refine c9 h cj (λ_ h r=>?_) (hx:=dB u.atoms)
     |exact dh h ae u.atoms (iL _ u)
   ·have bC:=ar @ai.len (ar @he.len (ar @o8 (ar (e3 ak5) @lg)));repeat' first
     |refine gV ?_
     |refine cf h λ_ _ h r=>?_
     |refine ka h au λ_ _ g=>?_
     |refine c9 h (.here _ _ _) (λ_ h r=>?_) (hx:=g.c0)
     |refine iI h (Hs g (by rw[fb];omega)) λ_ e=>?_;subst e
     |refine Kt h (T9 iT g Z (by rw[fb];omega) D (by rw[fb];exact Nat.mod_eq_zero_of_dvd yG)) λ_ _ _ _ u _=>?_
     |refine c9 h cj (λ_ h r=>?_) (hx:=u.c0)
     |refine Kt h (T9 jW g (by rw[fb];omega) (by rw[fb];omega) D (by rw[fb,fb];exact Nat.mod_eq_zero_of_dvd xm)) λ_ _ _ _ w _=>?_
     |refine c9 h cj (λ_ h r=>?_) (hx:=w.c0)
     |refine lp h (Nb u (amv ▸ w) ZW D) λ_ _ _ _ o=>?_
     |refine c9 h cj (λ_ h r=>?_) (hx:=dB o.atoms)
     |exact dh h ae o.atoms (iL _ o)) D,df J.A U.A⟩
theorem M9{p k:Int}(al:p.natAbs<1000000000:=by omega)(aR:0<k:=by omega)(hk:k<1000000000:=by omega):cI 142 [.int .i64 p,.int .i64 k] (jh (db p.natAbs k.toNat ((p:Rat) / (k:Rat)))):=⟨λs ae au=>
 (US (cv aS)).ee 0 (by
  show aV _ (HW a9 0 (.int .i64 p) (.int .i64 k) s);unfold HW;simp only[cw];have h:=aX.nil ae au;have r:=h.bX;obtain ⟨n,rfl⟩:∃n:Nat,k=n:=⟨k.toNat,D⟩;have J:=iZ (x:=p.natAbs) D;have U:=iZ (x:=n) D;repeat' first
   |refine kt ?_
   |refine cf h λ_ _ h r=>?_
   |refine ka h (D9 (x:=p) (Me al)) λ_ _ u=>?_
   |refine ka h (D9 (x:=(n:Int)) (Me D)) λ_ _ w=>?_
   |refine g7 h (Ht u w D D D) λv ad=>?_;obtain ⟨_,_,_,_,rfl,o⟩:=ad.fh D rfl (cg _) (cg _)
   |refine c9 h (.here _ _ _) (λ_ h r=>?_) (hx:=dB o.atoms)
   |exact dh h ae o.atoms ⟨_,_,_,_,rfl,o⟩) D,df rfl rfl⟩
theorem Du(x:Rat):(j3 x.den).length=0↔x.den=1:=Sx x.den_pos
theorem vr(J:kZ x (.agg [a,b,c,d])):cI 179 [.agg [a,b,c,d]] (nC λa b=>bN (x.den:Int) (.agg [a,b])):=⟨λs ae au=>
 (Ve (cv aS)).ee 0 (by
  show aV _ (Ik a9 0 (.agg [a,b,c,d]) s);unfold Ik;simp only[cw];have h:=aX.nil ae au;have r:=h.bX;have iT:=J.a2;obtain ⟨rfl,ai,rfl,he⟩:=J.cs;by_cases hk:x.den=1
  ·have Z:=(Du x).2 hk;rw[hk];have bC:= @he.len;repeat' first
    |refine gV ?_
    |refine cf h λ_ _ h r=>?_
    |refine ka h ae3 λ_ _ u=>?_
    |refine c9 h (.here _ _ _) (λ_ h r=>?_) (hx:=u.c0)
    |exact dh h ae u.A ⟨_,_,rfl,u⟩
  ·have Z: ¬(j3 x.den).length=0:=λh=>hk ((Du x).1 h);have hlen:=he.len;rw[show j3 x.den=aL x.den by unfold j3;rw[if_neg hk]]at he;have u:bN (x.den:Int) (.agg [.bool false,d]):=bN.wo he;have bC:= @hlen;repeat' first
    |refine gV ?_
    |refine cf h λ_ _ h r=>?_
    |refine c9 h (.here _ _ _) (λ_ h r=>?_) (hx:=u.c0)
    |exact dh h ae u.A ⟨_,_,rfl,u⟩) D,fJ J.a2⟩
theorem Na(J:kZ x (.agg [a,b,c,d])):cI 177 [.agg [a,b,c,d]] (m3 (·=gN x 0)):=⟨λs ae au=>
 (Vc (cv aS)).ee 0 (by
  show aV _ (Ii a9 0 (.agg [a,b,c,d]) s);unfold Ii;simp only[cw];have h:=aX.nil ae au;have r:=h.bX;repeat' first
   |refine kt ?_
   |refine cf h λ_ _ h r=>?_
   |refine g7 h (pC (aic J.num) (fJ J.num.A) rfl:cI 154 [.agg [a,b]] (·=.int .i64 (e8 x.num 0))) (λ_ e=>?_);subst e
   |exact dh h ae rfl ⟨_,rfl,adn x⟩) D,fJ J.a2⟩
theorem kZ.neg(h:kZ x (.agg [a,b,c,d]))(h':bN (-x.num) (.agg [a8,a4])):kZ (-x) (.agg [a8,a4,c,d]):=by
 obtain ⟨rfl,ai,rfl,he⟩:=h.cs;obtain ⟨rfl,aM⟩:=h'.cs;exact ⟨a4,d,by rw[Rat.neg_num],by rw[Rat.neg_num];exact aM,by rw[Rat.neg_den];exact he⟩
theorem aeV(J:kZ x (.agg [a,b,c,d])):cI 175 [.agg [a,b,c,d]] (jh λa b c d=>kZ (-x) (.agg [a,b,c,d])):=⟨λs ae au=>
 (Va (cv aS)).ee 0 (by
  show aV _ (Ig a9 0 (.agg [a,b,c,d]) s);unfold Ig;simp only[cw];have h:=aX.nil ae au;have r:=h.bX;repeat' first
   |refine kt ?_
   |refine cf h λ_ _ h r=>?_
   |refine iH h (ae0 J.num) λ_ _ p=>?_
   |refine fN h (.here _ _ _) (λ_ _ h r=>?_) (hx:=dB (J.neg p).a2)
   |exact dh h ae (J.neg p).a2 ⟨_,_,_,_,rfl,J.neg p⟩) D,fJ J.a2⟩
theorem zf{x:Rat}(h:x.num=0):x=0:=Rat.num_eq_zero.1 h
theorem JU{x:Rat}(h:x.den=1):x=(x.num:Rat):=by
 have:=rx x;rw[h,show ((1:Nat):Rat)=1 from rfl]at this;have e:(x.num:Rat) / 1=x.num:=by grind
 exact this.trans e
theorem kZ.int{m:Int}(h:bN m (.agg [a,b])):kZ (m:Rat) (.agg [a,b,.bool false,.af]):=by
 obtain ⟨rfl,ai⟩:=h.cs;exact ⟨b,.af,rfl,ai,bV.nil _⟩
theorem x9(J:db A B x a b c d)(U:db fi B' y a8 a4 bj bK)(a5:A*B'+fi*B<1000000000)(ai:B*B'<1000000000):cI 141 [.agg [a,b,c,d],.agg [a8,a4,bj,bK]] (jh (db (A*B'+fi*B) (B*B') (x+y))):=⟨λs ae au=>
 (UR (cv aS)).ee 0 (by
  show aV _ (HV a9 0 (.agg [a,b,c,d]) (.agg [a8,a4,bj,bK]) s);unfold HV;simp only[cw];have h:=aX.nil ae au;have r:=h.bX;have fE:1<=B:=gb x.den_pos J.2.2;have ku:1<=B':=gb y.den_pos U.2.2;have i1:A<=A*B':=DZ _ ku;have i2:fi<=fi*B:=DZ _ fE;have i3:B<=B*B':=DZ _ ku;have i4:B'<=B*B':=Nat.le_mul_of_pos_left _ fE;have ed:=J.1.num;have gu:=U.1.num;obtain ⟨fQ,b1,cq⟩:=J;obtain ⟨bM,cV,dn⟩:=U;have e6:x.num.natAbs*y.den<=A*B':=nA b1 dn;have fo:y.num.natAbs*x.den<=fi*B:=nA cV cq;have g9:x.den*y.den<=B*B':=nA cq dn;have dR:(x.num*(y.den:Int)).natAbs<=A*B':=by rw[mC,fb];exact e6
  have dF:(y.num*(x.den:Int)).natAbs<=fi*B:=by rw[mC,fb];exact fo
  have k6:((x.den:Int)*(y.den:Int))=((x.den*y.den:Nat):Int):=by rw[wO]
  have ly:(x.num*(y.den:Int)+y.num*(x.den:Int)).natAbs<=A*B'+fi*B:=D;have bk:=iZ (x:=(x.num*(y.den:Int)).natAbs) D;have cn:=iZ (x:=(y.num*(x.den:Int)).natAbs) D;have dM:=iZ (x:=(x.num*(y.den:Int)+y.num*(x.den:Int)).natAbs) D;have eU:=iZ (x:=x.den*y.den) D;have rD:=x.den_pos;have hyp:=y.den_pos;obtain ⟨rfl,d1,rfl,aC⟩:=fQ.cs;obtain ⟨rfl,d2,rfl,ba⟩:=bM.cs;have gR:=zd x.num;have jd:=zd y.num;have cL:=Du x;have cS:=Du y;by_cases hi:x.den=1∧y.den=1
  ·have ig:=cL.2 hi.1;have mj:=cS.2 hi.2;have iL:∀ {a b:V},bN (x.num+y.num) (.agg [a,b])->db (A*B'+fi*B) (B*B') (x+y) a b (.bool false) .af:=λh=>by
    have e:x+y=((x.num+y.num:Int):Rat):=by rw[Rat.intCast_add,<-JU hi.1,<-JU hi.2]
    rw[e];exact ⟨kZ.int h,by show (x.num+y.num).natAbs<=_;omega,by show 1<=_;omega⟩
   have bC:=ar @aC.len @ba.len;repeat' first
    |refine gV ?_
    |refine cf h λ_ _ h r=>?_
    |refine ka h (T4 ed gu (by have:=iZ (x:=x.num.natAbs) D;omega) (by have:=iZ (x:=y.num.natAbs) D;omega)) λ_ _ u=>?_
    |refine c9 h (.here _ _ _) (λ_ h r=>?_) (hx:=dB (iL u).atoms)
    |exact dh h ae (iL u).atoms ⟨_,_,_,_,rfl,iL u⟩
  ·by_cases lv:x.num=0
   ·have aY:=gR.2 lv;have iL:db (A*B'+fi*B) (B*B') (x+y) (.bool (decide (y.num<0))) a4 (.bool false) bK:=by
     rw[zf lv,Rat.zero_add];exact ⟨bM,D,D⟩
    by_cases ig:(j3 x.den).length=0
    ·have mj: ¬(j3 y.den).length=0:=λh=>hi ⟨cL.1 ig,cS.1 h⟩;have bC:=ar @aC.len (ar @ba.len @d1.len);repeat' first
      |refine gV ?_
      |refine cf h λ_ _ h r=>?_
      |refine c9 h (.here _ _ _) (λ_ h r=>?_) (hx:=dB iL.atoms)
      |exact dh h ae iL.atoms ⟨_,_,_,_,rfl,iL⟩
    ·have bC:=ar @aC.len (ar @ba.len @d1.len);repeat' first
      |refine gV ?_
      |refine cf h λ_ _ h r=>?_
      |refine c9 h (.here _ _ _) (λ_ h r=>?_) (hx:=dB iL.atoms)
      |exact dh h ae iL.atoms ⟨_,_,_,_,rfl,iL⟩
   ·have Ru: ¬(aL x.num.natAbs).length=0:=λh=>lv (gR.1 h);by_cases pw:y.num=0
    ·have aY:=jd.2 pw;have iL:db (A*B'+fi*B) (B*B') (x+y) (.bool (decide (x.num<0))) b (.bool false) d:=by
      rw[zf pw,Rat.add_zero];exact ⟨fQ,D,D⟩
     by_cases ig:(j3 x.den).length=0
     ·have mj: ¬(j3 y.den).length=0:=λh=>hi ⟨cL.1 ig,cS.1 h⟩;have bC:=ar @aC.len (ar @ba.len (ar @d1.len @d2.len));repeat' first
       |refine gV ?_
       |refine cf h λ_ _ h r=>?_
       |refine c9 h (.here _ _ _) (λ_ h r=>?_) (hx:=dB iL.atoms)
       |exact dh h ae iL.atoms ⟨_,_,_,_,rfl,iL⟩
     ·have bC:=ar @aC.len (ar @ba.len (ar @d1.len @d2.len));repeat' first
       |refine gV ?_
       |refine cf h λ_ _ h r=>?_
       |refine c9 h (.here _ _ _) (λ_ h r=>?_) (hx:=dB iL.atoms)
       |exact dh h ae iL.atoms ⟨_,_,_,_,rfl,iL⟩
    ·have y7: ¬(aL y.num.natAbs).length=0:=λh=>pw (jd.1 h);have F8:((x.den:Int))≠0:=D;have Rq:((y.den:Int))≠0:=D;have CN:(((x.num*(y.den:Int)+y.num*(x.den:Int)):Int):Rat) / (((x.den*y.den:Nat):Int):Rat)=x+y:=by
      rw[Rat.intCast_add,q1,q1,wO,q1,tx,tx];have J:=sH x;have U:=sH y
      conv=>rhs;rw[rx x,rx y]
      grind
     have aB:=vr fQ;have aT:=vr bM;have bp:=λ{e f:V} (w:bN (y.den:Int) (.agg [e,f]))=>ya ed w lv Rq D (by rw[fb];omega);have eh:=λ{e f:V} (u:bN (x.den:Int) (.agg [e,f]))=>ya gu u pw F8 D (by rw[fb];omega);have eo:=λ{e f g i:V} (dm:bN (x.num*(y.den:Int)) (.agg [e,f])) (fg:bN (y.num*(x.den:Int)) (.agg [g,i]))=>T4 dm fg D D;have g2:=λ{e f g i:V} (u:bN (x.den:Int) (.agg [e,f])) (w:bN (y.den:Int) (.agg [g,i]))=>ya u w F8 Rq (by rw[fb];omega) (by rw[fb];omega);rw[k6]at g2;have jy:∀ {e f g i:V},bN (x.num*(y.den:Int)+y.num*(x.den:Int)) (.agg [e,f])->bN ((x.den*y.den:Nat):Int) (.agg [g,i])->cI 180 [.agg [e,f],.agg [g,i]] (jh (db (A*B'+fi*B) (B*B') (x+y))):=λfy gH=>by
      have:=Ht fy gH (D3 rD hyp) D D;exact ⟨λs ae au=>let ⟨v,ad,e⟩:=this.1 s ae au;⟨v,ad.fh (by have:=D3 rD hyp;omega) CN ly g9,e⟩,this.2⟩
     clear bk cn dM eU dR dF k6 ly e6 fo g9 i1 i2 i3 i4 a5 ai fE ku b1 cq cV dn CN F8 Rq rD hyp;by_cases ig:(j3 x.den).length=0
     ·have mj: ¬(j3 y.den).length=0:=λh=>hi ⟨cL.1 ig,cS.1 h⟩;clear cL cS gR jd hi lv pw;have bC:=ar @aC.len (ar @ba.len (ar @d1.len @d2.len));repeat' first
       |refine gV ?_
       |refine mL h λ_ _ _ h r=>?_
       |refine cf h λ_ _ h r=>?_
       |refine iH h aB λ_ _ u=>?_
       |refine iH h aT λ_ _ w=>?_
       |refine fN h cj (λ_ _ h r=>?_) (hx:=bN.c0 c3)
       |refine iH h (bp w) λ_ _ dm=>?_
       |refine iH h (eh u) λ_ _ fg=>?_
       |refine iH h (eo dm fg) λ_ _ fy=>?_
       |refine iH h (g2 u w) λ_ _ gH=>?_
       |refine eN h (jy fy gH) λ_ _ _ _ o=>?_
       |refine fN h cj (λ_ _ h r=>?_) (hx:=dB o.atoms)
       |exact dh h ae o.atoms ⟨_,_,_,_,rfl,o⟩
     ·clear cL cS gR jd hi lv pw;have bC:=ar @aC.len (ar @ba.len (ar @d1.len @d2.len));repeat' first
       |refine gV ?_
       |refine mL h λ_ _ _ h r=>?_
       |refine cf h λ_ _ h r=>?_
       |refine iH h aB λ_ _ u=>?_
       |refine iH h aT λ_ _ w=>?_
       |refine fN h cj (λ_ _ h r=>?_) (hx:=bN.c0 c3)
       |refine iH h (bp w) λ_ _ dm=>?_
       |refine iH h (eh u) λ_ _ fg=>?_
       |refine iH h (eo dm fg) λ_ _ fy=>?_
       |refine iH h (g2 u w) λ_ _ gH=>?_
       |refine eN h (jy fy gH) λ_ _ _ _ o=>?_
       |refine fN h cj (λ_ _ h r=>?_) (hx:=dB o.atoms)
       |exact dh h ae o.atoms ⟨_,_,_,_,rfl,o⟩) D,df J.pV U.pV⟩
end
end
section
attribute [local irreducible] bZ dp aF gZ cJ et c6 e9 eT aW aw cT bB e5 fD ef gv fl eV fe aV
section
variable {A B fi B' n:Nat}{x y z:Rat}{a b c d a8 a4 bj bK:V}{p q:Int}
theorem kZ.sF(h:kZ x (.agg [a,b,c,d])):bN (wz x.den) (.agg [c,d]):=by
 obtain ⟨rfl,J,rfl,U⟩:=h.cs;exact ⟨d,by rw[(Sy _).2],by rw[(Sy _).1];exact U⟩
theorem Mv(x:Rat):gN x 0= -1∧x<0∨gN x 0=0∧x=0∨gN x 0=1∧0<x:=by
 unfold gN;by_cases J:x<0;rw[if_pos J];exact .inl ⟨rfl,J⟩;rw[if_neg J];by_cases U:0<x;rw[if_pos U];exact .inr (.inr ⟨rfl,U⟩);rw[if_neg U];exact .inr (.inl ⟨rfl,Rat.le_antisymm (zz.1 U) (zz.1 J)⟩)
theorem aro{m n:Int}(hm:gN x 0=m)(a5:gN y 0=n)(h:m≠n∨m=0):e8 m n=gN x y:=by
 rcases Mv x with ⟨J,U⟩|⟨J,U⟩|⟨J,U⟩<;>rcases Mv y with ⟨aj,aH⟩|⟨aj,aH⟩|⟨aj,aH⟩<;>rw[J]at hm<;>rw[aj]at a5<;>subst hm a5
 omega;unfold gN;rw[if_pos (by rw[aH];exact U)];rfl;unfold gN;rw[if_pos (by grind)];rfl;unfold gN;rw[if_neg (by rw[U];grind),if_pos (by rw[U];exact aH)];rfl;unfold gN;rw[U,aH,if_neg (by grind)];rfl;unfold gN;rw[if_pos (by rw[U];exact aH)];rfl;unfold gN;rw[if_neg (by grind),if_pos (by grind)];rfl;unfold gN;rw[if_neg (by rw[aH];grind),if_pos (by rw[aH];exact U)];rfl;omega
theorem D8(J:db A B x a b c d)(U:db fi B' y a8 a4 bj bK)(gW:A<1000000000:=by omega)(fE:B<1000000000:=by omega)(p2:fi<1000000000:=by omega)(ku:B'<1000000000:=by omega):cI 147 [.agg [a,b,c,d],.agg [a8,a4,bj,bK]] (m3 (·=gN x y)):=⟨λs ae au=>
 (UY (cv aS)).ee 0 (by
  show aV _ (H2 a9 0 (.agg [a,b,c,d]) (.agg [a8,a4,bj,bK]) s);unfold H2;simp only[cw];have h:=aX.nil ae au;have r:=h.bX;have ed:=J.1.num;have gu:=U.1.num;have fQ:=J.1;have bM:=U.1;have bb:=J.2;have bU:=U.2;have dj:=Mv x;have dL:=Mv y;have aM:=λh=>aro (x:=x) (y:=y) (m:=gN x 0) (n:=gN y 0) rfl rfl h;have aB:=Na fQ;have aT:=Na bM;have gR:x.num=0->gN x 0=0:=λh=>by rw[zf h];rfl
  have jd:y.num=0->gN y 0=0:=λh=>by rw[zf h];rfl
  have rD:=x.den_pos;have hyp:=y.den_pos;have v3:=SR x y;have uC:gN x 0= -1∨gN x 0=0∨gN x 0=1:=by rcases dj with h|h|h<;>simp[h.1]
  have Pz:gN y 0= -1∨gN y 0=0∨gN y 0=1:=by rcases dL with h|h|h<;>simp[h.1]
  generalize hm:gN x 0=m at*;generalize a5:gN y 0=k at*;clear dj dL;by_cases K3:m≠k∨m=0
  ·have e:=aM K3;have bp:=D9 (x:=m) (by unfold ez;omega);have eh:=D9 (x:=k) (by unfold ez;omega);have eo:=λ{e f g i:V} (u:bN m (.agg [e,f])) (w:bN k (.agg [g,i]))=>T5 u w (gb (iZ D) D) (gb (iZ D) D);by_cases ey:m=k
   ·have aR:m=0:=D;repeat' first
     |refine kt ?_
     |refine cf h λ_ _ h r=>?_
     |refine gr h aB (λ_ e=>?_);subst e
     |refine gr h aT (λ_ e=>?_);subst e
     |refine ka h bp λ_ _ u=>?_
     |refine ka h eh λ_ _ w=>?_
     |refine gr h (eo c3 c3) (λ_ e=>?_);subst e
     |exact dh h ae rfl ⟨_,rfl,e⟩
   ·repeat' first
     |refine kt ?_
     |refine cf h λ_ _ h r=>?_
     |refine gr h aB (λ_ e=>?_);subst e
     |refine gr h aT (λ_ e=>?_);subst e
     |refine ka h bp λ_ _ u=>?_
     |refine ka h eh λ_ _ w=>?_
     |refine gr h (eo c3 c3) (λ_ e=>?_);subst e
     |exact dh h ae rfl ⟨_,rfl,e⟩
  ·have lv:x.num≠0:=λh=>K3 (.inr (gR h));have pw:y.num≠0:=λh=>by have:=jd h;omega
   have yT:m=k:=D;have FL: ¬m=0:=D;have bp:=vr fQ;have eh:=vr bM;have eo:=λ{e f:V} (w:bN (y.den:Int) (.agg [e,f]))=>ya ed w lv D D (by rw[fb];omega);have g2:=λ{e f:V} (u:bN (x.den:Int) (.agg [e,f]))=>ya gu u pw D D (by rw[fb];omega);have bk:=qd x.num.natAbs y.den;have cn:=qd y.num.natAbs x.den;have dM:=iZ (x:=x.num.natAbs) D;have eU:=iZ (x:=x.den) D;have hy:=iZ (x:=y.num.natAbs) D;have nj:=iZ (x:=y.den) D;have jy:=λ{e f g i:V} (u:bN (x.num*(y.den:Int)) (.agg [e,f])) (w:bN (y.num*(x.den:Int)) (.agg [g,i]))=>T5 u w (by rw[mC,fb];omega) (by rw[mC,fb];omega);clear bk cn dM eU hy nj bb bU rD hyp lv pw gR jd aM gW fE p2 ku;repeat' first
    |refine kt ?_
    |refine cf h λ_ _ h r=>?_
    |refine gr h aB (λ_ e=>?_);subst e
    |refine gr h aT (λ_ e=>?_);subst e
    |refine ka h eh λ_ _ w=>?_
    |refine ka h (eo w) λ_ _ u=>?_
    |refine ka h bp λ_ _ w'=>?_
    |refine ka h (g2 w') λ_ _ kS=>?_
    |refine gr h (jy u kS) (λ_ e=>?_);subst e
    |exact dh h ae rfl ⟨_,rfl,v3⟩) D,df J.pV U.pV⟩
theorem aeF{v w:V}{l m:List Int}(ad:bV .i64 v l)(hw:bV .i64 w m)(Z:l.length<=1000000):cI 134 [v,w] (lj (·=decide (l=m))):=⟨λs ae au=>
 (UJ (cv aS)).ee 1000001 (by
  show aV _ (HN a9 1000001 v w s);unfold HN;simp only[cw];have h:=aX.nil ae au;have r:=h.bX;generalize eO:1000001=F;by_cases QE:l.length=m.length;simp (disch:=omega) only[fU,st,bg,ad.len,hw.len];refine hO (λk vs t=> ∃i:Nat,vs=[.int .i64 i,.int .i64 l.length,v,w]∧t=s∧l.take i=m.take i∧i+k=l.length) l.length ⟨0,rfl,rfl,rfl,D⟩ D ?_;rintro a3 k _ _ ⟨i,rfl,rfl,aO,na⟩ cR;by_cases hi:i<l.length;by_cases he:l.getD i 0=m.getD i 0;simp (disch:=omega) only[fU,st,bg,ad.c1,hw.c1,hb,dZ,bT,ne_eq,not_true];refine cR (k - 1) _ _ D ⟨i+1,rfl,rfl,?_,D⟩;rw[Hr,Hr,aO];simp only[ir]at he;rw[mA hi,mA (show i<m.length by omega)]at he ⊢;simp at he;rw[he];simp (disch:=omega) only[fU,st,bg,ad.c1,hw.c1,hb,dZ];exact dh h ae rfl ⟨_,rfl,(e3 (by rintro rfl;exact he rfl)).symm⟩;have:i=l.length:=D;subst this;simp (disch:=omega) only[fU,st,bg];rw[oB,QE,oB]at aO;exact dh h ae rfl ⟨_,rfl,(gi aO).symm⟩;simp (disch:=omega) only[fU,st,bg,ad.len,hw.len];exact dh h ae rfl ⟨_,rfl,(e3 (by rintro rfl;exact QE rfl)).symm⟩) D,df ad.a2 hw.a2⟩
theorem M8(J:bN p (.agg [a,b]))(U:bN q (.agg [c,d]))(Z:(aL p.natAbs).length<=1000000):cI 133 [.agg [a,b],.agg [c,d]] (lj (·=decide (p=q))):=⟨λs ae au=>
 (UI (cv aS)).ee 0 (by
  show aV _ (HM a9 0 (.agg [a,b]) (.agg [c,d]) s);unfold HM;simp only[cw];have h:=aX.nil ae au;have r:=h.bX;obtain ⟨rfl,ai⟩:=J.cs;obtain ⟨rfl,he⟩:=U.cs;by_cases hU:decide (p<0)=decide (q<0)
  ·rw[hU];have e:decide (aL p.natAbs=aL q.natAbs)=decide (p=q):=by
    have h:=decide_eq_decide.1 hU;refine decide_eq_decide.2 ⟨λh'=>?_,λh'=>by rw[h']⟩;have aj:=gq p.natAbs;rw[h',gq]at aj;omega
   have bC:=ar @xf (ar ((@eq_self Bool)) (ar @decide_true @gm));repeat' first
    |refine gV ?_
    |refine cf h λ_ _ h r=>?_
    |refine iI h (aeF ai he Z) (λ_ e=>?_);subst e
    |exact dh h ae rfl ⟨_,rfl,e⟩
  ·have ey: ¬p=q:=λe=>hU (by rw[e]);have bC:=ar @xf (ar (e3 hU) @gm);repeat' first
    |refine gV ?_
    |refine cf h λ_ _ h r=>?_
    |exact dh h ae rfl ⟨_,rfl,(e3 ey).symm⟩) D,df J.A U.A⟩
theorem Hw(J:db A B x a b c d)(U:db fi B' y a8 a4 bj bK)(gW:A<1000000000:=by omega)(fE:B<1000000000:=by omega):cI 88 [.agg [a,b,c,d],.agg [a8,a4,bj,bK]] (lj (·=decide (x=y))):=⟨λs ae au=>
 (VZ (cv aS)).ee 0 (by
  show aV _ (I8 a9 0 (.agg [a,b,c,d]) (.agg [a8,a4,bj,bK]) s);unfold I8;simp only[cw];have h:=aX.nil ae au;have r:=h.bX;have ed:=J.1.num;have gu:=U.1.num;have cL:=J.1.sF;have cS:=U.1.sF;have bk:(aL x.num.natAbs).length<=1000000:=by have:=iZ (x:=x.num.natAbs) (by have:=J.2.1;omega);omega
  have cn:(aL (wz x.den).natAbs).length<=1000000:=by rw[(Sy x.den).1];have:=acK x.den;have:=iZ (x:=x.den) (by have:=J.2.2;omega);omega
  have rD:=x.den_pos;have hyp:=y.den_pos;have a7:wz x.den=wz y.den↔x.den=y.den:=by unfold wz;split<;>split<;>omega
  by_cases a5:x.num=y.num
  ·have e:decide (wz x.den=wz y.den)=decide (x=y):=decide_eq_decide.2 ⟨λh=>Rat.ext a5 (a7.1 h),λh=>by rw[h]⟩;have bC:=ar @gm (gi a5);repeat' first
    |refine gV ?_
    |refine cf h λ_ _ h r=>?_
    |refine iI h (M8 ed gu bk) (λ_ e=>?_);subst e
    |refine iI h (M8 cL cS cn) (λ_ e=>?_);subst e
    |exact dh h ae rfl ⟨_,rfl,e⟩
  ·have e:decide (x=y)=false:=e3 (λh=>a5 (by rw[h]));have bC:=ar @gm (e3 a5);repeat' first
    |refine gV ?_
    |refine cf h λ_ _ h r=>?_
    |refine iI h (M8 ed gu bk) (λ_ e=>?_);subst e
    |exact dh h ae rfl ⟨_,rfl,e.symm⟩) D,df J.pV U.pV⟩
theorem aeW(J:kZ x (.agg [a,b,c,d]))(U:kZ 0 (.agg [a8,a4,bj,bK])):cI 176 [.agg [a,b,c,d],.agg [a8,a4,bj,bK]] (jh (db 0 1 0)):=⟨λs ae au=>
 (Vb (cv aS)).ee 0 (by
  show aV _ (Ih a9 0 (.agg [a,b,c,d]) (.agg [a8,a4,bj,bK]) s);unfold Ih;simp only[cw];have h:=aX.nil ae au;have r:=h.bX;obtain ⟨rfl,ai,rfl,he⟩:=U.cs;have Z:=ai.len;rw[show (0:Rat).num.natAbs=0 from rfl,jm]at Z;have aY:db 0 1 0 (.bool false) .af (.bool false) .af:=⟨SL.1,cg _,cg _⟩;have bC:=ar @Z (show (([]:List Int).length:Int)=0 from rfl);repeat' first
   |refine gV ?_
   |refine cf h λ_ _ h r=>?_
   |refine c9 h (.here _ _ _) (λ_ h r=>?_)
   |exact dh h ae rfl ⟨_,_,_,_,rfl,aY⟩) D,df J.a2 U.a2⟩
end
end
section
attribute [local irreducible] bZ dp aF gZ cJ et c6 e9 eT aW aw cT bB e5 fD ef gv fl eV fe aV
section
variable {A B fi B' n:Nat}{x y z:Rat}{a b c d a8 a4 bj bK e f g i aZ gj g0 dt:V}{p q:Int}
theorem dvd_num{u:Rat}{p:Int}{q:Nat}(a7:q≠0)(h:u=(p:Rat) / ((q:Nat):Rat)):u.num.natAbs ∣ p.natAbs∧u.den ∣ q:=by
 have J:=sH u;have U:((q:Nat):Rat)≠0:=by
  intro e;have h:(q:Rat)=((0:Nat):Rat):=by rw[e];rfl
  rw[Rat.natCast_inj]at h;exact a7 h
 have aj:(u.num:Rat)*((q:Nat):Rat)=(p:Rat)*((u.den:Nat):Rat):=by
  have e:=rx u
  grind
 have aH:u.num*(q:Int)=p*(u.den:Int):=by
  rw[<-tx,<-tx,<-q1,<-q1,Rat.intCast_inj]at aj;exact aj
 have bD:u.num.natAbs*q=p.natAbs*u.den:=by
  have:=congrArg Int.natAbs aH
  rwa [mC,mC,fb,fb]at this
 have aa:Nat.Coprime u.num.natAbs u.den:=u.reduced;exact ⟨aa.dvd_of_dvd_mul_right (bD ▸ Nat.dvd_mul_right _ _),aa.symm.dvd_of_dvd_mul_left (bD.symm ▸ Nat.dvd_mul_left _ _)⟩
theorem apb{u w:Rat}(hu:u=(x.num:Rat) / ((y.den:Nat):Rat))(hw:w=(y.num:Rat) / ((x.den:Nat):Rat)):(x*y).num=u.num*w.num∧(x*y).den=u.den*w.den:=by
 obtain ⟨J,U⟩:=dvd_num y.den_nz hu;obtain ⟨aj,aH⟩:=dvd_num x.den_nz hw;have cy:Nat.Coprime u.num.natAbs u.den:=u.reduced;have cm:Nat.Coprime w.num.natAbs w.den:=w.reduced;have dc:Nat.Coprime u.num.natAbs w.den:=(Nat.Coprime.coprime_dvd_left J x.reduced).coprime_dvd_right aH;have dw:Nat.Coprime w.num.natAbs u.den:=(Nat.Coprime.coprime_dvd_left aj y.reduced).coprime_dvd_right U;have jX:sX (u.num*w.num) (u.den*w.den):=by
  refine ⟨D3 u.den_pos w.den_pos,?_⟩;rw[mC];exact Nat.Coprime.mul_left (cy.mul_right dc) (dw.mul_right cm)
 have e:AW _ _ jX=x*y:=by
  rw[acU jX (p:=u.num*w.num) (q:=((u.den*w.den:Nat):Int)) (by have:=jX.1;omega) rfl,q1,wO,q1,tx,tx];have aC:=rx u;have ba:=rx w;have cd:=rx x;have ff:=rx y;have dj:=sH u;have dL:=sH w;have eH:=sH x;have e0:=sH y;have:(u.num:Rat)*w.num / ((u.den:Rat)*w.den)=u*w:=by
   conv=>rhs;rw[aC,ba]
   grind
  rw[this,hu,hw]
  conv=>rhs;rw[cd,ff]
  grind
 rw[<-e];exact ⟨rfl,rfl⟩
theorem aqz{P Q:V->V->V->V->Prop}{v:V}(h:jh P v)(h':∀a b c d,P a b c d->Q a b c d):jh Q v:=let ⟨a,b,c,d,e,h⟩:=h;⟨a,b,c,d,e,h' a b c d h⟩
theorem Bz(J:db A B x a b c d)(U:db fi B' y a8 a4 bj bK)(a5:A*fi<1000000000)(ai:B*B'<1000000000)(gW:A<1000000000:=by omega)(p2:fi<1000000000:=by omega):cI 183 [.agg [a,b,c,d],.agg [a8,a4,bj,bK]] (jh (db (A*fi) (B*B') (x*y))):=⟨λs ae au=>
 (Vi (cv aS)).ee 0 (by
  show aV _ (Ip a9 0 (.agg [a,b,c,d]) (.agg [a8,a4,bj,bK]) s);unfold Ip;simp only[cw];have h:=aX.nil ae au;have r:=h.bX;have fE:1<=B:=gb x.den_pos J.2.2;have ku:1<=B':=gb y.den_pos U.2.2;have ed:=J.1.num;have gu:=U.1.num;obtain ⟨fQ,b1,cq⟩:=J;obtain ⟨bM,cV,dn⟩:=U;have e6:x.num.natAbs*y.num.natAbs<=A*fi:=nA b1 cV;have g9:x.den*y.den<=B*B':=nA cq dn;have AB:B<=B*B':=DZ _ ku;have aaS:B'<=B*B':=Nat.le_mul_of_pos_left _ fE;have rD:=x.den_pos;have hyp:=y.den_pos;have gR:=zd x.num;have jd:=zd y.num;have cL:=Du x;have cS:=Du y;have aB:=vr fQ;have aT:=vr bM;obtain ⟨rfl,d1,rfl,aC⟩:=fQ.cs;obtain ⟨rfl,d2,rfl,ba⟩:=bM.cs;have aY:x=0∨y=0->db (A*fi) (B*B') (x*y) (.bool false) .af (.bool false) .af:=λh=>by
   have:x*y=0:=by rcases h with h|h<;>rw[h]<;>simp
   rw[this];exact ⟨SL.1,qX _,D3 fE ku⟩
  by_cases lv:x.num=0
  ·have Z:=gR.2 lv;have E:=aY (.inl (zf lv));clear gR jd cL cS aY;have bC:=ar @aC.len (ar @ba.len (ar @d1.len @d2.len));repeat' first
    |refine gV ?_
    |refine cf h λ_ _ h r=>?_
    |refine c9 h (.here _ _ _) (λ_ h r=>?_)
    |exact dh h ae E.atoms ⟨_,_,_,_,rfl,E⟩
  ·have Z: ¬(aL x.num.natAbs).length=0:=λh=>lv (gR.1 h);by_cases pw:y.num=0
   ·have dK:=jd.2 pw;have E:=aY (.inr (zf pw));clear gR jd cL cS aY;have bC:=ar @aC.len (ar @ba.len (ar @d1.len @d2.len));repeat' first
     |refine gV ?_
     |refine cf h λ_ _ h r=>?_
     |refine c9 h (.here _ _ _) (λ_ h r=>?_)
     |exact dh h ae E.atoms ⟨_,_,_,_,rfl,E⟩
   ·have dK: ¬(aL y.num.natAbs).length=0:=λh=>pw (jd.1 h);have F7:x.num.natAbs<1000000000:=D;have Gb:y.num.natAbs<1000000000:=D;by_cases hi:x.den=1∧y.den=1
    ·have ig:=cL.2 hi.1;have mj:=cS.2 hi.2;have bp:=ya ed gu lv pw F7 Gb;have iL:∀ {a b:V},bN (x.num*y.num) (.agg [a,b])->db (A*fi) (B*B') (x*y) a b (.bool false) .af:=λh=>by
      have e:x*y=((x.num*y.num:Int):Rat):=by rw[q1,<-JU hi.1,<-JU hi.2]
      rw[e];exact ⟨kZ.int h,by show (x.num*y.num).natAbs<=_;rw[mC];exact e6,D3 fE ku⟩
     clear gR jd cL cS aY hi e6 g9 AB aaS;have bC:=ar @aC.len (ar @ba.len (ar @d1.len @d2.len));repeat' first
      |refine gV ?_
      |refine cf h λ_ _ h r=>?_
      |refine ka h bp λ_ _ u=>?_
      |refine c9 h (.here _ _ _) (λ_ h r=>?_) (hx:=dB (iL u).atoms)
      |exact dh h ae (iL u).atoms ⟨_,_,_,_,rfl,iL u⟩
    ·have bp:∀ {e f:V},bN (y.den:Int) (.agg [e,f])->cI 180 [.agg [.bool (decide (x.num<0)),b],.agg [e,f]] (jh (db x.num.natAbs y.den ((x.num:Rat) / ((y.den:Int):Rat)))):=λw=>by
      have:=Ht ed w hyp (by have:=iZ F7;omega) (by have:=iZ (x:=y.den) D;omega);exact ⟨λs ae au=>let ⟨v,ad,e⟩:=this.1 s ae au;⟨v,ad.fh D rfl (cg _) (cg _),e⟩,this.2⟩
     have eh:∀ {e f:V},bN (x.den:Int) (.agg [e,f])->cI 180 [.agg [.bool (decide (y.num<0)),a4],.agg [e,f]] (jh (db y.num.natAbs x.den ((y.num:Rat) / ((x.den:Int):Rat)))):=λw=>by
      have:=Ht gu w rD (by have:=iZ Gb;omega) (by have:=iZ (x:=x.den) D;omega);exact ⟨λs ae au=>let ⟨v,ad,e⟩:=this.1 s ae au;⟨v,ad.fh D rfl (cg _) (cg _),e⟩,this.2⟩
     have Re:((x.num:Rat) / ((y.den:Int):Rat)).num≠0:=λh=>by
      have h:=zf h;have g:=sH y;have:(x.num:Rat)=0:=by rw[tx]at h;grind
      rw[show (0:Rat)=((0:Int):Rat) from rfl,Rat.intCast_inj]at this;exact lv this
     have uW:((y.num:Rat) / ((x.den:Int):Rat)).num≠0:=λh=>by
      have h:=zf h;have g:=sH x;have:(y.num:Rat)=0:=by rw[tx]at h;grind
      rw[show (0:Rat)=((0:Int):Rat) from rfl,Rat.intCast_inj]at this;exact pw this
     have FM:=apb (x:=x) (y:=y) (u:=(x.num:Rat) / ((y.den:Int):Rat)) (w:=(y.num:Rat) / ((x.den:Int):Rat)) rfl rfl;generalize (x.num:Rat) / ((y.den:Int):Rat)=u at*;generalize (y.num:Rat) / ((x.den:Int):Rat)=w at*;have F3:=u.den_pos;have aaA:=w.den_pos;have eo:∀ {a b c d e f g i:V},db x.num.natAbs y.den u a b c d->db y.num.natAbs x.den w e f g i->cI 181 [.agg [a,b],.agg [e,f]] (nC λa b=>bN (u.num*w.num) (.agg [a,b])):=λh h'=>by
      have:=h.2;have:=h'.2;exact ya h.1.num h'.1.num Re uW D D
     have g2:∀ {a b c d e f g i aZ gj g0 dt:V},db x.num.natAbs y.den u a b c d->db y.num.natAbs x.den w e f g i->bN (u.den:Int) (.agg [aZ,gj])->bN (w.den:Int) (.agg [g0,dt])->cI 181 [.agg [aZ,gj],.agg [g0,dt]] (nC λa b=>bN ((u.den*w.den:Nat):Int) (.agg [a,b])):=λh h' o o'=>by
      have:=h.2;have:=h'.2;rw[wO];exact ya o o' D D (by rw[fb];omega) (by rw[fb];omega)
     have jy:∀ {a b c d e f g i aZ gj g0 dt:V},db x.num.natAbs y.den u a b c d->db y.num.natAbs x.den w e f g i->bN (u.num*w.num) (.agg [aZ,gj])->bN ((u.den*w.den:Nat):Int) (.agg [g0,dt])->cI 198 [.agg [aZ,gj],.agg [g0,dt]] (jh (db (A*fi) (B*B') (x*y))):=λh h' o o'=>by
      have i1:u.num.natAbs*w.num.natAbs<=x.num.natAbs*y.num.natAbs:=nA h.2.1 h'.2.1;have i2:u.den*w.den<=y.den*x.den:=nA h.2.2 h'.2.2;rw[Nat.mul_comm y.den]at i2;have:=Nb o o' (D3 F3 aaA) (by have:=iZ (x:=u.den*w.den) D;omega);refine ⟨λs ae au=>?_,this.2⟩;obtain ⟨v,ad,e⟩:=this.1 s ae au;refine ⟨v,aqz ad λa b c d aa=>⟨?_,?_,?_⟩,e⟩;unfold kZ;rw[FM.1,FM.2];exact aa;rw[FM.1,mC];omega;rw[FM.2];omega
     clear FM gR jd aY e6 g9 AB aaS F7 Gb Re uW F3 aaA rD hyp a5 ai gW p2 fE ku b1 cq cV dn;by_cases ig:(j3 x.den).length=0
     ·have mj: ¬(j3 y.den).length=0:=λh=>hi ⟨cL.1 ig,cS.1 h⟩;clear cL cS hi lv pw;have bC:=ar @aC.len (ar @ba.len (ar @d1.len @d2.len));repeat' first
       |refine gV ?_
       |refine mL h λ_ _ _ h r=>?_
       |refine cf h λ_ _ h r=>?_
       |refine iH h aB λ_ _ dm=>?_
       |refine iH h aT λ_ _ fg=>?_
       |refine eN h (bp fg) λ_ _ _ _ fy=>?_
       |refine eN h (eh dm) λ_ _ _ _ gH=>?_
       |refine fN h cj (λ_ _ h r=>?_) (hx:=dB (db.atoms c3))
       |refine iH h (eo fy gH) λ_ _ ho=>?_
       |refine iH h (vr fy.1) λ_ _ AT=>?_
       |refine iH h (vr gH.1) λ_ _ Dk=>?_
       |refine iH h (g2 fy gH AT Dk) λ_ _ kO=>?_
       |refine eN h (jy fy gH ho kO) λ_ _ _ _ o=>?_
       |exact dh h ae o.atoms ⟨_,_,_,_,rfl,o⟩
     ·clear cL cS hi lv pw;have bC:=ar @aC.len (ar @ba.len (ar @d1.len @d2.len));repeat' first
       |refine gV ?_
       |refine mL h λ_ _ _ h r=>?_
       |refine cf h λ_ _ h r=>?_
       |refine iH h aB λ_ _ dm=>?_
       |refine iH h aT λ_ _ fg=>?_
       |refine eN h (bp fg) λ_ _ _ _ fy=>?_
       |refine eN h (eh dm) λ_ _ _ _ gH=>?_
       |refine fN h cj (λ_ _ h r=>?_) (hx:=dB (db.atoms c3))
       |refine iH h (eo fy gH) λ_ _ ho=>?_
       |refine iH h (vr fy.1) λ_ _ AT=>?_
       |refine iH h (vr gH.1) λ_ _ Dk=>?_
       |refine iH h (g2 fy gH AT Dk) λ_ _ kO=>?_
       |refine eN h (jy fy gH ho kO) λ_ _ _ _ o=>?_
       |exact dh h ae o.atoms ⟨_,_,_,_,rfl,o⟩) D,df J.pV U.pV⟩
end
end
section
def tD(v:V):Bool:=a2 v || (match v with
 |.ptr _ _=>true
 |.fn _ [] (_::_)=>true
 |_=>false)
theorem Pv:∀ {l:List V} (s:S),l.all tD=true->nI l s=(l,[],s)
 |[],_,_=>rfl
 |v::l,s,h=>by
  simp only[gS,dU]at h;have a3:=Pv s h.2;by_cases av:a2 v=true;unfold nI;simp only[Py av,mark,a3,hd];have J:=h.1;unfold tD at J;rw[show a2 v=false by simpa using av,vm]at J;have aM:fq s 24 v=none:=by
   split at J<;>first|rfl|(cases J;done)
  unfold nI;simp only[aM,a3]
theorem abh{v:V}(h:tD v=true):en v=false:=by
 by_cases av:a2 v=true;exact OG av;unfold tD at h;rw[show a2 v=false by simpa using av,vm]at h;split at h<;>first|rfl|(cases h;done)
theorem abi:∀ {l:List V},l.all tD=true->l.any en=false
 |[],_=>rfl
 |v::l,h=>by
  simp only[gS,dU]at h;simp only[D0,abh h.1,abi h.2,Bool.or_self]
theorem aiG{cz:bt}{aP st:Bool}{f:Nat}{args cap:List V}{s:S}{v:V}(h':cz f (args++cap) (aN s)=some (v,aN s))(av:(args++cap).all tD=true)(ae:s.ag<=s.n):cJ cz aP st (.fn f [] cap) args s=some (v,s):=by
 have Y:args.any en=false:=abi (by rw[Bx,dU]at av;exact av.1);unfold cJ;rw[Y];simp only[hp];have E:kG dT f (args++cap) { s with ag:=s.n } =(args++cap,[], { s with ag:=s.n }):=by
  unfold kG;split;rfl;exact Pv _ av
 rw[E];simp only[];have h':cz f (args++cap) { s with ag:=s.n } =some (v,aN s):=h';rw[h'];have ai:qI aP st [] (Nat.ble s.n (aN s).ag)=true:=by
  have:Nat.ble s.n (aN s).ag=true:=by rw[eu];exact cg _
  rw[this];cases aP<;>cases st<;>rfl
 simp only[ai,least];simp only[aN];rw[ny ae]
def Jf(s:S):List (Nat×List V)->Prop
 |[]=>True
 |(b,cs)::l=>(b<s.n∧kY s b cs)∧Jf s l
def sU(f:Nat)(args:List V)(l:List (Nat×List V))(P:V->Prop):Prop:=(∀s:S,s.ag=s.n->l4 s->Jf s l-> ∃v,P v∧a9 f args s=some (v,s))∧args.all tD=true
section
variable {ao s:S}{L cu:List b2}{Q:ax->Prop}
theorem p0{K:V->S->ax}{aP st:Bool}{f:Nat}{args cap:List V}{l:List (Nat×List V)}{P:V->Prop}(h:aX ao s L)(aa:sU f (args++cap) l P)(jI:Jf (aN s) l)(H:∀v,P v->aV Q (K v s)):aV Q (bZ (cJ a9 aP st (.fn f [] cap) args s) K):=by
 obtain ⟨v,ad,e⟩:=aa.1 (aN s) rfl h.g jI;rw[aiG e aa.2 h.loc.ag,js];exact H v ad
theorem aX.rO{b t:Nat}{cs:List V}(h:aX ao s L)(Y:b2.cM b cs t∈L):b<(aN s).n∧kY (aN s) b cs:=by
 have:dN ao s b cs t false:=h.ok _ Y;exact ⟨this.hi,_,_,_,this.get⟩
theorem aX.or{b:Nat}{cs:List V}(h:aX ao s L)(Y:b2.ro b cs∈L):b<(aN s).n∧kY (aN s) b cs:=by
 have:b<ao.n∧b<s.n∧kY s b cs:=h.ok _ Y;exact this.2
theorem aX.W4(h:aX ao s L):aX ao s (.ro 0 [.fn 449 [] [],.fn 450 [] [],.fn 451 [] [],.fn 452 [] []]::L):=h.q7 (by have:=h.n3.n;omega) ⟨_,_,_,h.n3.kH⟩
end
theorem RS(n:Nat)(b:(List V->S->ax)->List V->S->ax)(l:List V)(s:S):cT (n+1) b l s=b (cT n b) l s:=rfl
theorem Lz:(∀(k:IntKind) (b o:Nat),nR 2 4 (.ptr b o) (.int k 0)=some (.ptr b o))∧(∀(k:IntKind) (b o:Nat),nR 2 4 (.ptr b o) (.int k 1)=some (.ptr b (o+4)))∧(∀(k:IntKind) (a b c d:V),C5 2 2 (.agg [a,b,c,d]) (.int k 0)=some (.agg [a,b]))∧(∀(k:IntKind) (a b c d:V),C5 2 2 (.agg [a,b,c,d]) (.int k 1)=some (.agg [c,d]))∧
  (∀(f b:Nat),n2 f [] [.ptr b 0]=some (.fn f [] [.ptr b 0]))∧(∀(f b c:Nat),n2 f [] [.ptr b 0,.ptr c 0]=some (.fn f [] [.ptr b 0,.ptr c 0])):=
 ⟨λ_ _ _=>rfl,λ_ _ _=>rfl,λ_ _ _ _ _=>rfl,λ_ _ _ _ _=>rfl,λ_ _=>rfl,λ_ _ _=>rfl⟩
attribute [local irreducible] bZ dp aF gZ cJ et c6 e9 eT aW aw cT bB e5 fD ef gv fl eV fe aV
section
variable {A B fi B' n m:Nat}{x y z:Rat}{a b c d a8 a4 bj bK e f g i aZ gj g0 dt:V}{p q:Int}
theorem Nd(J:([a,b,c,d,e,f,g,i]:List V).all atom=true):cI 449 [.agg [a,b,c,d,e,f,g,i]] (·=.agg [a,b,c,d]):=⟨λs ae au=>
 (VE (cv aS)).ee 0 (by
  show aV _ (IL a9 0 (.agg [a,b,c,d,e,f,g,i]) s);unfold IL;simp only[cw];have h:=aX.nil ae au;have r:=h.bX;have U:([a,b,c,d]:List V).all atom=true:=by simp only[gS,dU]at J ⊢;simp[J]
  repeat' first
   |refine kt ?_
   |refine cf h λ_ _ h r=>?_
   |refine c9 h (.here _ _ _) (λ_ h r=>?_) (hx:=dB U)
   |exact dh h ae U rfl) D,fJ J⟩
theorem Nf(J:([a,b,c,d,e,f,g,i]:List V).all atom=true):cI 451 [.agg [a,b,c,d,e,f,g,i]] (·=.agg [e,f,g,i]):=⟨λs ae au=>
 (VH (cv aS)).ee 0 (by
  show aV _ (IP a9 0 (.agg [a,b,c,d,e,f,g,i]) s);unfold IP;simp only[cw];have h:=aX.nil ae au;have r:=h.bX;have U:([e,f,g,i]:List V).all atom=true:=by simp only[gS,dU]at J ⊢;simp[J]
  repeat' first
   |refine kt ?_
   |refine cf h λ_ _ h r=>?_
   |refine c9 h (.here _ _ _) (λ_ h r=>?_) (hx:=dB U)
   |exact dh h ae U rfl) D,fJ J⟩
theorem Ue:cI 450 [.agg [.int .i64 p,.int .i64 q]] (·=.int .i64 p):=⟨λs ae au=>
 (VG (cv aS)).ee 0 (by
  show aV _ (IN a9 0 (.agg [.int .i64 p,.int .i64 q]) s);unfold IN;simp only[cw];have h:=aX.nil ae au;have r:=h.bX;repeat' first
   |refine kt ?_
   |refine cf h λ_ _ h r=>?_
   |exact dh h ae rfl rfl) D,rfl⟩
theorem Uf:cI 452 [.agg [.int .i64 p,.int .i64 q]] (·=.int .i64 q):=⟨λs ae au=>
 (VI (cv aS)).ee 0 (by
  show aV _ (IQ a9 0 (.agg [.int .i64 p,.int .i64 q]) s);unfold IQ;simp only[cw];have h:=aX.nil ae au;have r:=h.bX;repeat' first
   |refine kt ?_
   |refine cf h λ_ _ h r=>?_
   |exact dh h ae rfl rfl) D,rfl⟩
def BM(k:Nat)(f:Int×Int->Int):Prop:= ∀p q:Int,cI k [.agg [.int .i64 p,.int .i64 q]] (·=.int .i64 (f (p,q)))
theorem acv:BM 450 (·.1):=λ_ _=>Ue
theorem acw:BM 452 (·.2):=λ_ _=>Uf
theorem TY:cI 137 [.int .i64 p,.int .i64 q] (·=.int .i64 (e8 p q)):=pC (OP p q) rfl rfl
theorem TX{k w gd:Nat}{F:Int×Int->Int}(aM:BM k F)(P eR:Int×Int):sU 136 [.agg [.int .i64 P.1,.int .i64 P.2],.agg [.int .i64 eR.1,.int .i64 eR.2],.ptr gd 0] [(gd,[.fn w [] [],.fn k [] []])] (·=.int .i64 (e8 (F P) (F eR))):=⟨λs ae au aE=>
 (UL (cv aS)).ee 0 (by
  show aV _ (HP a9 0 (.agg [.int .i64 P.1,.int .i64 P.2]) (.agg [.int .i64 eR.1,.int .i64 eR.2]) (.ptr gd 0) s);unfold HP;simp only[cw];have h:=(aX.nil ae au).q7 aE.1.1 aE.1.2;have r:=h.bX;have aB:=aM P.1 P.2;have aT:=aM eR.1 eR.2;repeat' first
   |refine kt ?_
   |refine cf h λ_ _ h r=>?_
   |refine g7 h aB (λ_ e=>?_);subst e
   |refine g7 h aT (λ_ e=>?_);subst e
   |refine g7 h TY (λ_ e=>?_);subst e
   |exact dh h ae rfl rfl) D,rfl⟩
theorem T0{k w gd:Nat}{F:Int×Int->Int}(aM:BM k F)(P eR:Int×Int):sU 139 [.agg [.int .i64 P.1,.int .i64 P.2],.agg [.int .i64 eR.1,.int .i64 eR.2],.ptr gd 0] [(gd,[.fn w [] [],.fn k [] []])] (·=.int .i64 (e8 (F P) (F eR))):=⟨λs ae au aE=>
 (UO (cv aS)).ee 0 (by
  show aV _ (HS a9 0 (.agg [.int .i64 P.1,.int .i64 P.2]) (.agg [.int .i64 eR.1,.int .i64 eR.2]) (.ptr gd 0) s);unfold HS;simp only[cw];have h:=(aX.nil ae au).q7 aE.1.1 aE.1.2;have r:=h.bX;have aB:=aM P.1 P.2;have aT:=aM eR.1 eR.2;repeat' first
   |refine kt ?_
   |refine cf h λ_ _ h r=>?_
   |refine g7 h aB (λ_ e=>?_);subst e
   |refine g7 h aT (λ_ e=>?_);subst e
   |refine g7 h TY (λ_ e=>?_);subst e
   |exact dh h ae rfl rfl) D,rfl⟩
theorem fY.one{v:V}{α:Type}{R:α->List V->Prop}{TK:Nat}{x:α}(h:fY TK R [x] v):∃c,v=.fs c 1∧R x c∧c.length=TK∧c.all X.atom=true:=by
 obtain ⟨cs,aM,aa⟩:=h;cases aa with
 |cons x c xs cs h Z av ae=>
  cases ae;rw[hd]at aM;cases aM;exact ⟨_,rfl,h,Z,av⟩
theorem D7(J:db A B x a b c d){v:V}(U:fY 4 (kE fi B') [y] v)(gW:A<1000000000:=by omega)(fE:B<1000000000:=by omega)(p2:fi<1000000000:=by omega)(ku:B'<1000000000:=by omega)(hm:A<=n:=by omega)(kI:fi<=n:=by omega)(hk:B<=m:=by omega)(fS:B'<=m:=by omega):
  cI 132 [.agg [a,b,c,d],v] (El (db n m (sB x y)) (db n m (sf x y))):=by
 obtain ⟨cs,rfl,⟨a8,a4,bj,bK,rfl,jW⟩,_,_⟩:=U.one;exact ⟨λs ae au=>
 (UH (cv aS)).ee 2 (by
  show aV _ (HL a9 2 (.agg [a,b,c,d]) (.fs [a8,a4,bj,bK] 1) s);unfold HL;simp only[cw];have h:=aX.nil ae au;have r:=h.bX;have aB:=D8 jW J;have cy:=Mu y x;have cm:=Mt y x;have Z:fP (.fs [a8,a4,bj,bK] 1)=some (.int .i64 1):=rfl;have hl:dW 4 (.fs [a8,a4,bj,bK] 1) (.int .i64 0)=some (.fu [a8,a4,bj,bK]):=rfl;have s1:=dB J.atoms;have s2:=dB jW.atoms;by_cases b6:y<x
  ·have aC:sB x y=y:=if_pos b6;have ba:sf x y=x:=if_neg (zz.2 (Rat.le_of_lt b6));rw[aC,ba];have dc:=cy.2 b6;have dw: ¬0<gN y x:=λh=>absurd (cm.1 h) (zz.2 (Rat.le_of_lt b6));clear cy cm gW fE p2 ku;have bC:=ar @Z (ar @hl (ar @hJ (ar @RS @bT)));repeat' first
    |refine gV ?_
    |refine mL h λ_ _ _ h r=>?_
    |refine cf h λ_ _ h r=>?_
    |refine gr h aB (λ_ e=>?_);subst e
    |refine fN h cj (λ_ _ h r=>?_) (hx:=by assumption)
    |refine c9 h cj (λ_ h r=>?_) (hx:=by assumption)
    |refine pj ?_
    |exact nJ h ae jW.atoms J.atoms ⟨_,_,_,_,_,_,_,_,rfl,jW.mono kI fS,J.mono hm hk⟩
  ·by_cases ob:x<y
   ·have aC:sB x y=x:=if_neg b6;have ba:sf x y=y:=if_pos ob;rw[aC,ba];have dc:=cm.2 ob;have dw: ¬gN y x<0:=λh=>b6 (cy.1 h);clear cy cm gW fE p2 ku;have bC:=ar @Z (ar @hl (ar @hJ (ar @RS @bT)));repeat' first
     |refine gV ?_
     |refine mL h λ_ _ _ h r=>?_
     |refine cf h λ_ _ h r=>?_
     |refine gr h aB (λ_ e=>?_);subst e
     |refine fN h cj (λ_ _ h r=>?_) (hx:=by assumption)
     |refine c9 h cj (λ_ h r=>?_) (hx:=by assumption)
     |refine pj ?_
     |exact nJ h ae J.atoms jW.atoms ⟨_,_,_,_,_,_,_,_,rfl,J.mono hm hk,jW.mono kI fS⟩
   ·have aC:sB x y=x:=if_neg b6;have ba:sf x y=x:=if_neg ob;rw[aC,ba];have dc: ¬0<gN y x:=λh=>ob (cm.1 h);have dw: ¬gN y x<0:=λh=>b6 (cy.1 h);clear cy cm gW fE p2 ku;have bC:=ar @Z (ar @hl (ar @hJ (ar @RS @bT)));repeat' first
     |refine gV ?_
     |refine mL h λ_ _ _ h r=>?_
     |refine cf h λ_ _ h r=>?_
     |refine gr h aB (λ_ e=>?_);subst e
     |refine fN h cj (λ_ _ h r=>?_) (hx:=by assumption)
     |refine c9 h cj (λ_ h r=>?_) (hx:=by assumption)
     |refine pj ?_
     |exact nJ h ae J.atoms J.atoms ⟨_,_,_,_,_,_,_,_,rfl,J.mono hm hk,J.mono hm hk⟩) D,df J.pV rfl⟩
end
end
end Go.ah.X
