/-
  A part: lemmas; conditions: those that each names.
-/
import Derived.Test.YtalmddmghdinkaaGreatDoorQ
set_option linter.all false
set_option linter.deprecated false
noncomputable section
namespace Go.ah.X
open Go
section
theorem eL{ao s:S}(cs:List V)(t:Nat)(Z:Loc ao s):∃s',c6 s (gv cs t (aN s))=some (.ptr s.n 0,s')∧dN ao s' s.n cs t false∧Loc ao s'∧fX s s' []∧s'.n=s.n+1:=by
 have aR:=Z.n;have J:=Z.eK;have U:=Z.ag;refine ⟨_,rfl,⟨aR,by simp[newObj,aN],by simp only[newObj,aN];exact aJ.jV _ _ _⟩,⟨by simp only[newObj,aN];omega,by simp only[newObj,aN];omega,by simp only[newObj,aN];omega⟩,
  ⟨by simp only[newObj,aN];omega,λc aa _=>by simp only[newObj,aN];rw[aJ.hj _ _ D]⟩,rfl⟩
theorem gf(t:Nat)(cs:List V)(s:S):jj t (.agg cs) s=gv cs t s:=rfl
theorem ahX(t:Nat)(k:IntKind)(n:Int)(s:S):jj t (.int k n) s=gv [.int k n] t s:=rfl
theorem du(o b:Nat):a6 o (.ptr b 0)=some (.ptr b o):=by simp[a6]
section
variable {ao s:S}{b t:Nat}{bw:Bool}
theorem kN{b j n:Nat}{cs:List V}(h:kY s b cs)(aG:j+n<=cs.length):bf n s (.ptr b j)=some (.agg ((cs.drop j).take n)):=by
 obtain ⟨e,bw,own,au⟩:=h;unfold bf rd;simp only[AY au aG]
theorem dN.bM{x y:V}(h:dN ao s b [x,y] t bw):cZ s (.ptr b 0)=some x∧cZ s (.ptr b 1)=some y∧bf 2 s (.ptr b 0)=some (.agg [x,y]):=
 ⟨nk h.rd (by simp),nk h.rd (by simp),kN h.rd (by simp)⟩
theorem dN.hL{x y z w:V}(h:dN ao s b [x,y,z,w] t bw):cZ s (.ptr b 0)=some x∧cZ s (.ptr b 1)=some y∧cZ s (.ptr b 2)=some z∧cZ s (.ptr b 3)=some w∧
  bf 2 s (.ptr b 0)=some (.agg [x,y])∧bf 2 s (.ptr b 2)=some (.agg [z,w])∧bf 4 s (.ptr b 0)=some (.agg [x,y,z,w]):=
 ⟨nk h.rd (by simp),nk h.rd (by simp),nk h.rd (by simp),nk h.rd (by simp),kN h.rd (by simp),kN h.rd (by simp),kN h.rd (by simp)⟩
theorem dN.put{cs l:List V}{z:Nat}(h:dN ao s b cs t bw)(Z:Loc ao s)(aY:l.length=z)(aa:cs.length=z)(hx:l.all bL=true):
  ∃s',c6 s (ef z (.ptr b 0) (.agg l) (aN s))=some (.bad,s')∧dN ao s' b l t bw∧Loc ao s'∧fX s s' [b]∧s'.n=s.n:=by
 obtain ⟨s',aC,bb,bk,aB,ed⟩:=h.write Z (j:=0) (l:=l) D hx;refine ⟨s',?_,?_,bk,aB,ed⟩;rw[<-aC .bad];have:Nat.beq l.length z=true:=by rw[qV];exact aY
 simp only[ef,eJ,this];cases ow (aN s) b 0 l<;>rfl;have:gp cs 0 l=l:=by
  unfold gp;rw[sP,hp,pb D,hd]
 rwa [this]at bb
theorem dN.u7{cs:List V}{x:V}{j:Nat}(h:dN ao s b cs t bw)(Z:Loc ao s)(aG:j<cs.length)(hx:bL x=true):
  ∃s',c6 s (ef 1 (.ptr b j) x (aN s))=some (.bad,s')∧dN ao s' b (cs.set j x) t bw∧Loc ao s'∧fX s s' [b]∧s'.n=s.n:=by
 obtain ⟨s',aC,bb,bk,aB,ed⟩:=h.write Z (j:=j) (l:=[x]) (by simp;omega) (by simp[hx]);refine ⟨s',?_,?_,bk,aB,ed⟩;rw[<-aC .bad,S5 hx]
 rwa [SW _ _ aG]at bb
end
theorem arj{x:V}(h:bL x=true):eJ x=[x]∧x≠ .bad:=by cases x<;>first|(cases h;done)|exact ⟨rfl,by simp⟩
theorem rj{x:V}(hx:bL x=true)(cs:List V)(o:Nat)(aE:o<cs.length)(r:List (Nat×Nat×V)):bW cs ((o,1,x)::r)=bW (cs.set o x) r:=by
 have h:=arj hx;have J:(Nat.beq (eJ x).length 1 && Nat.ble (o+1) cs.length)=true:=by
  rw[dU,qV,eu,h.1];exact ⟨rfl,aE⟩
 conv=>lhs;unfold bW
 split;exact absurd rfl h.2;rw[J];simp only[h.1,SW _ _ aE]
theorem ajX{l:List V}(cs:List V)(o z:Nat)(aY:l.length=z)(aE:o+z<=cs.length)(r:List (Nat×Nat×V)):bW cs ((o,z,.agg l)::r)=bW (gp cs o l) r:=by
 have J:(Nat.beq l.length z && Nat.ble (o+z) cs.length)=true:=by
  rw[dU,qV,eu];exact ⟨aY,aE⟩
 conv=>lhs;unfold bW
 simp only[eJ,J]
theorem Jy{v:V}(h:atom v=true):bL v=true:=by
 unfold atom at h;split at h<;>first|rfl|(cases h;done)
theorem dz.bL{z:Nat}{v:V}{l:Nat}{cs:List V}(h:dz z v l cs):X.bL v=true:=Jy h.atom
theorem Pl{x y a b:V}(hx:bL x=true)(aI:bL y=true):bW [a,b] [(0,1,x),(1,1,y)]=some (.agg [x,y]):=by
 rw[rj hx _ _ (by simp),rj aI _ _ (by simp)];rfl
theorem uB(cs:List V):bW cs []=some (.agg cs):=rfl
def bN(x:Int)(r:V):Prop:= ∃d,r=.agg [.bool (decide (x<0)),d]∧bV .i64 d (aL x.natAbs)
theorem bN.a2{x:Int}{r:V}(h:bN x r):a2 r=true:=by
 obtain ⟨d,rfl,ai⟩:=h;show (atom (.bool (decide (x<0))) && (atom d && true))=true;rw[bV.atom ai];rfl
theorem xN{m:Nat}(h:aL m=[]):m=0:=by
 by_cases h':m=0;exact h';exact absurd h (AL h')
def eA(neg:Bool)(x:Int):Int:=if neg then -x else x
theorem Dh(neg:Bool){x:Int}(h:0<=x):(eA neg x).natAbs=x.toNat:=by unfold eA;split<;>omega
theorem Ms(neg:Bool){x:Int}(h:0<x):decide (eA neg x<0)=neg:=by unfold eA;cases neg<;>simp<;>omega
theorem adW{l:List Int}{k:Nat}(hk:0<k)(h:l.getD (k - 1) 0=0)(ad:a0 (l.take k)=a0 l):a0 (l.take (k - 1))=a0 l:=by
 have:=qT l (k - 1);rw[show k - 1+1=k by omega,h,nZ,q0]at this;omega
theorem adV{l:List Int}(ai:ea l){k:Nat}(hk:0<k)(Al:k<=l.length)(h:l.getD (k - 1) 0≠0)(ad:a0 (l.take k)=a0 l):aL (a0 l).toNat=l.take k∧0<a0 l:=by
 have J:=apg ai Al ad (.inr h);refine ⟨J,?_⟩;have U:=nw ai;rcases (show a0 l=0∨0<a0 l by omega) with aj|aj
 rw[aj]at J;have:(aL (0:Int).toNat)=[]:=jm;rw[this]at J;have:=congrArg List.length J;rw[kV,List.length_nil]at this;omega;exact aj
end
def eM(t:Reach)(lo hi:Nat)(z:List Nat):ct:=⟨⟨t,some [],lo,hi⟩,z⟩
theorem e2:(∀(v:V) (s:S) (x:ct) (k:V->S->ct->ax),dp (some (v,s,x)) k=k v s x)∧(∀(s:S) (o:mX),ga none s o=o)∧(∀(t:Reach) (s:S) (v:V),eT t s (some v)=some (v,s,eM t s.n s.n []))∧
  (∀(s:S) (o:mX),ga (some (.bool true,true)) s o=o)∧(∀(s:S) (o:mX),ga (some (.bool false,false)) s o=o)∧(∀(s:S) (o:mX),ga (some (.bool true,false)) s o=some (.da [],s,eM (some []) s.n s.n []))∧
  (∀(s:S) (o:mX),ga (some (.bool false,true)) s o=some (.da [],s,eM (some []) s.n s.n []))∧(∀(s:S) (w:Bool) (o:mX),ga (some (.da [],w)) s o=some (.da [],s,eM (some []) s.n s.n []))∧
  (∀(s:S) (v:V),xD s v=some (v,s,eM (some []) s.n s.n [])):=
 ⟨λv s x k=>by rw[pX],λ_ _=>rfl,λ_ _ _=>rfl,λ_ _=>rfl,λ_ _=>rfl,λ_ _=>rfl,λ_ _=>rfl,λ_ _ _=>rfl,λ_ _=>rfl⟩
theorem zP{cz:bt}{f:Nat}{args:List V}{v:V}(aa:km cz f args v)(av:args.all a2=true){s:S}(ae:s.ag<=s.n):et cz (.fn f [] []) args s=some (v,s,eM none s.n s.n []):=by
 unfold et;rw[zJ av];simp only[hp,hd];rw[Co _ av];simp only[];rw[aa { s with ag:=s.n } rfl];have:Nat.blt s.n s.n=false:=by cases h:Nat.blt s.n s.n with
  |false=>rfl
  |true=>rw[gy]at h;omega
 simp only[this,least];rw[ny ae];rfl
theorem ln{cz:bt}{f:Nat}{args:List V}{P:V->Prop}(aa:h6 cz f args P)(av:args.all a2=true){s:S}(ae:s.ag<=s.n):∃v,P v∧et cz (.fn f [] []) args s=some (v,s,eM none s.n s.n []):=by
 obtain ⟨v,ad,h⟩:=aa (aN s) rfl;refine ⟨v,ad,?_⟩;unfold et;rw[zJ av];simp only[hp,hd];rw[Co _ av];simp only[];have h':cz f args { s with ag:=s.n } =some (v,aN s):=h;rw[h'];have:Nat.blt s.n s.n=false:=by cases h:Nat.blt s.n s.n with
  |false=>rfl
  |true=>rw[gy]at h;omega
 simp only[aN,this,least];rw[ny ae];rfl
theorem Xz{cz:bt}{f:Nat}{args args':List V}{bs:List Nat}{ao s bc:S}{P:V->Prop}(Z:Loc ao s)(av:gz (aN s) args args' bs bc)(Y:∀b,b∈bs->ao.n<=b)(aa:h6 cz f args' P)(hk:dT f=false:=by rfl):
  ∃v,P v∧ ∃s',et cz (.fn f [] []) args s=some (v,s',eM none s.n s.n bs)∧Loc ao s'∧fX s s' bs∧s'.n=s.n∧ ∀c cs,kY s c cs->kY s' c cs:=by
 have aR:=Z.n;have J:=Z.eK;have U:=Z.ag;have a5:=av.n;have hw:bc.ag=bc.n:=by rw[a5.1,a5.2];rfl
 obtain ⟨v,ad,h⟩:=aa bc hw;refine ⟨v,ad,?_⟩;unfold et;rw[av.bad];simp only[hp,hd];have E:kG dT f args { s with ag:=s.n } =(args',bs,bc):=(s8 hk _ _).trans av.run;rw[E];simp only[];rw[h];have ml:bc.ag=s.n:=a5.2;have gg:bc.n=s.n:=a5.1;have:Nat.blt bc.ag s.n=false:=by cases h:Nat.blt bc.ag s.n with
  |false=>rfl
  |true=>rw[gy]at h;omega
 simp only[this,gg];refine ⟨_,rfl,⟨by simp only[gg];exact aR,tF Y D,gb u1 (by simp only[gg];omega)⟩,⟨by simp only[gg];omega,λc _ aa=>?_⟩,by simp only[gg],λc cs iK=>?_⟩;exact av.out aa;obtain ⟨e,bw,own,au⟩:=iK;exact av.rd ⟨e,bw,own,au⟩
theorem XB{cz:bt}{f:Nat}{args args':List V}{bs:List Nat}{ao s bc:S}{e z l:Nat}{cs:List V}(Z:Loc ao s)(av:gz (aN s) args args' bs bc)(Y:∀b,b∈bs->ao.n<=b)(aa:bc.ag=bc.n->pT bc e z l cs (cz f args' bc))(iK:cs.length=l*z)(hk:dT f=false:=by rfl):
  ∃v s' hi,et cz (.fn f [] []) args s=some (v,s',eM none s.n hi bs)∧cl ao s' e z v l cs∧Loc ao s'∧fX s s' bs∧(∀b,b∈b4 v->s.n<=b)∧ ∀c cs,kY s c cs->c<s.n->kY s' c cs:=by
 have aR:=Z.n;have J:=Z.eK;have U:=Z.ag;have a5:=av.n;have gg:bc.n=s.n:=a5.1;have ml:bc.ag=s.n:=a5.2;have hw:bc.ag=bc.n:=D;unfold et;rw[av.bad];simp only[hp,hd];have E:kG dT f args { s with ag:=s.n } =(args',bs,bc):=(s8 hk _ _).trans av.run;rw[E];simp only[];have n6:∀m,m=s.n->Nat.blt m s.n=false:=by
  intro m hm;cases h:Nat.blt m s.n with
  |false=>rfl
  |true=>rw[gy]at h;omega
 rcases aa hw with ⟨rfl,rfl,h⟩|⟨bw,h⟩
 rw[h];simp only[n6 _ ml];exact ⟨_,_,_,rfl,.nil,⟨by simp only[gg];exact aR,tF Y D,gb u1 (by simp only[gg];omega)⟩,⟨by simp only[gg];omega,λc _ aa=>av.out aa⟩,λb Y=>(by simp[b4]at Y),λc cs iK _=>av.rd iK⟩;rw[h];simp only[newObj,n6 _ ml];refine ⟨_,_,_,rfl,.cc _ _ _ bw ⟨D,by simp only[];omega,by simp only[];exact aJ.jV _ _ _⟩ iK,⟨by simp only[gg];omega,tF Y D,gb u1 (by simp only[gg];omega)⟩,⟨by simp only[gg];omega,λc b6 aa=>?_⟩,λb Y=>by simp[b4]at Y;omega,λc cs iK b6=>?_⟩;simp only[];rw[aJ.hj _ _ D];exact av.out aa;obtain ⟨aZ,tO,ja,au⟩:=av.rd iK;exact ⟨aZ,tO,ja,by simp only[];rw[aJ.hj _ _ D];exact au⟩
theorem JJ{cz:bt}{f:Nat}{args:List V}{ao s:S}{e:Nat}{k:IntKind}{P:List Int->Prop}(Z:Loc ao s)(av:args.all ep=true)(aa:BI cz f args e k P)(hk:dT f=false:=by rfl):
  ∃l,P l∧ ∃v s' hi,et cz (.fn f [] []) args s=some (v,s',eM none s.n hi [])∧cl ao s' e 1 v l.length (l.map (V.int k))∧Loc ao s'∧fX s s' []∧(∀b,b∈b4 v->s.n<=b):=by
 obtain ⟨l,al,h⟩:=aa (aN s) rfl;obtain ⟨v,s',hi,J,U,aj,aH,bD,_⟩:=XB (hk:=hk) Z (gz.q8 (aN s) av) (λb Y=>by cases Y) (λ_=>h) (by simp);exact ⟨l,al,v,s',hi,J,U,aj,aH,bD⟩
theorem cl.aN{ao s:S}{e z l:Nat}{x:V}{cs:List V}(hx:cl ao s e z x l cs):cl ao (X.aN s) e z x l cs:=by
 cases hx with
 |nil=>exact .nil
 |cc b l cs bw h Z=>exact .cc b l cs bw ⟨h.lo,h.hi,h.get⟩ Z
theorem vM{ao s:S}{e z l:Nat}{x:V}{cs:List V}(aS9 rest:List V)(hx:cl ao s e z x l cs)(av:cs.all atom=true)(has:aS9.all ep=true)(E:rest.all ep=true):
  ∃x' bc,gz (X.aN s) (aS9++x::rest) (aS9++x'::rest) (b4 x) bc∧dz z x' l cs:=by
 obtain ⟨x',bs,J,U,rfl⟩:=hx.aN.gl av;have aj:=gz.cons _ _ x x' _ rest rest [] (.one _ _ _ J) (gz.q8 (mark (b4 x) (X.aN s)) E);rw[hd]at aj;refine ⟨x',mark (b4 x) (X.aN s),?_,U⟩;clear J
 induction aS9 with
 |nil=>exact aj
 |cons a aS9 a3=>
  simp only[gS,dU]at has;have gW:m0 (X.aN s) a a []:=by
   have h:=has.1;unfold ep at h;split at h;exact .agg _ _ _ (q3.atoms h);exact .one _ _ _ (.at _ h)
  exact gz.cons _ _ a a [] _ _ _ gW (a3 has.2)
theorem dN.qJ{ao s:S}{b t:Nat}{bw:Bool}{cs l:List V}{z:Nat}{r w:Reach}(h:dN ao s b cs t bw)(Z:Loc ao s)(aY:l.length=z)(aa:cs.length=z)(hx:l.all bL=true):
  ∃s',e9 r w s (ef z (.ptr b 0) (.agg l) (aN s))=some (.bad,s',⟨⟨r,w,s.n,s.n⟩,[]⟩)∧dN ao s' b l t bw∧Loc ao s'∧fX s s' [b]∧s'.n=s.n:=by
 obtain ⟨s',aC,bb,bk,aB,ed⟩:=h.put Z aY aa hx;have hi:=h.hi;have hw:=MS (s:=aN s) h.get (j:=0) (l:=l) D hx;have Y:Nat.beq l.length z=true:=by rw[qV];exact aY
 have jx:ef z (.ptr b 0) (.agg l) (aN s)=some (.bad, { aN s with h:=(aN s).h.set b (.cells (gp cs 0 l) t bw true),ag:=min (aN s).ag b }):=by
  simp only[ef,eJ,Y,hw]
 rw[jx]at aC ⊢;refine ⟨s',?_,bb,bk,aB,ed⟩;simp only[c6,cU,c4,true_and]at aC;unfold e9;have b6:Nat.blt (min (aN s).ag b) s.n=true:=by rw[gy];simp only[aN];omega
 simp only[b6];rw[aC];rfl
theorem MQ{m:List Nat}{l:List ct}{k:ax}(h:fe m l=true):gZ (fe m l) k=k:=by rw[h];rfl
theorem DU{α:Type}{l:List α}{x:α}{i:Nat}(h:(x,i)∈l.zipIdx):l[i]? =some x:=by
 have:=nx.1 h;exact this
theorem O8{m:List Nat}{l:List ct}(h:∀i x,l[i]? =some x->x.f.w=some []∨(∃b bs,x.f.w=some (b::bs)∧(∀y,y∈l-> ∀c,c∈b::bs->c∉y.z))∧ ∀j,j<l.length->fixed m i j=true):fe m l=true:=by
 unfold fe;rw[dU];constructor;rw[fj];rintro ⟨x,i⟩ hx;have h3:=DU hx;rcases h i x h3 with J|⟨⟨b,bs,J,_⟩,U⟩
 simp only[J];simp only[J];rw[fj];rintro ⟨y,j⟩ aI;have aG:=(nX.1 (DU aI)).1;simp only[U j aG,Bm];unfold zr;rw[dU];constructor;rw[fj];intro x hx;split;rfl;rename_i z aY;rw[fj];intro y aI;obtain ⟨j,aG⟩:=sO aI;rcases h j y aG with J|⟨⟨b,bs,J,aj⟩,U⟩
 rw[J];rfl;rw[J];have aH:=aj x hx;cases Rp:x.z with
 |nil=>simp[Reach.meets]
 |cons c cs=>
  simp only[Reach.meets];rw[Bl,zu];intro bj lM he;exact aH bj lM (by rw[Rp];simpa using he)
 rw[r1];left;rw[fj];intro x hx;obtain ⟨j,aG⟩:=sO hx;rcases h j x aG with J|⟨⟨b,bs,J,_⟩,_⟩<;>rw[J]<;>rfl
theorem ajn{m:List Nat}{bO:List ct}{x:ct}{b:Nat}{bs:List Nat}(aM:(List.range (bO.length+1)).all (λj=>fixed m bO.length j)=true)(hw:x.f.w=some (b::bs))(Rp:x.z=[])(h:∀y,y∈bO->y.f.w=some []∧ ∀c,c∈b::bs->c∉y.z):fe m (bO++ [x])=true:=by
 apply O8;intro i y aI;by_cases hi:i<bO.length;rw[vi hi]at aI;exact .inl (h y (hR aI)).1;rw[DW D]at aI;have:i=bO.length:=by
  by_cases aR:i - bO.length=0;omega;rw[Bw (by simp;omega)]at aI;cases aI
 subst this;simp only[Nat.sub_self,List.getElem?_cons_zero,cU]at aI;subst aI;refine .inr ⟨⟨b,bs,hw,λy aI=>?_⟩,λj aG=>?_⟩;rcases mB.1 aI with aI|aI
 exact (h y aI).2;simp only[iu]at aI;subst aI;rw[Rp];intro c _ aa;cases aa;rw[hZ]at aG;exact fj.1 aM j (by rw[Bn];simpa using aG)
theorem ajm{m:List Nat}{bO:List ct}(h:∀y,y∈bO->y.f.w=some []):fe m bO=true:=
 O8 λ_ _ hx=>.inl (h _ (hR hx))
def iE(bs:List Nat):List ct->Prop
 |[]=>True
 |x::l=>(x.f.w=some []∧ ∀c,c∈bs->c∉x.z)∧iE bs l
theorem iE.mem{bs:List Nat} :∀ {l:List ct},iE bs l-> ∀y,y∈l->y.f.w=some []∧ ∀c,c∈bs->c∉y.z
 |_::_,h,y,aI=>(hc.1 aI).elim (λe=>e ▸ h.1) (h.2.mem y)
theorem iE.eY{bs:List Nat}{l:List ct}{t:Reach}{lo hi:Nat}(h:iE bs l):iE bs (eM t lo hi []::l):=⟨⟨rfl,λ_ _ h=>by cases h⟩,h⟩
theorem iE.lL{bs:List Nat}{l:List ct}{t:Reach}{lo hi:Nat}{z:List Nat}(aY:∀c,c∈bs->c∉z)(h:iE bs l):iE bs (eM t lo hi z::l):=⟨⟨rfl,aY⟩,h⟩
theorem pg{m:List Nat}{bO:List ct}{r:Reach}{lo hi b:Nat}(n:Nat)(a5:bO.length=n)(aM:(List.range (n+1)).all (λj=>fixed m n j)=true)(h:iE [b] bO):fe m (bO++ [⟨⟨r,some [b],lo,hi⟩,[]⟩])=true:=
 ajn (by rw[a5];exact aM) rfl rfl h.mem
theorem ES{m:List Nat}{bO:List ct}(h:iE [] bO):fe m bO=true:=ajm λy aI=>(h.mem y aI).1
theorem lb{s:S}{P:V->Prop}{m:List Nat}{l:List ct}{k:ax}(h:fe m l=true)(h':eE s P k):eE s P (gZ (fe m l) k):=by rw[MQ h];exact h'
theorem Ca{cz:bt}{aP st:Bool}{f:Nat}{args args':List V}{bs:List Nat}{ao s bc:S}{P:V->Prop}(Z:Loc ao s)(av:gz (aN s) args args' bs bc)(Y:∀b,b∈bs->ao.n<=b)(ai:st=true->aP=true->bs=[])(aa:h6 cz f args' P)(hk:dT f=false:=by rfl):
  ∃v,P v∧ ∃s',cJ cz aP st (.fn f [] []) args s=some (v,s')∧Loc ao s'∧fX s s' bs∧s'.n=s.n∧ ∀c cs,kY s c cs->kY s' c cs:=by
 have a5:=av.n;have hw:bc.ag=bc.n:=by rw[a5.1,a5.2];rfl
 obtain ⟨v,ad,h⟩:=aa bc hw;refine ⟨v,ad,?_⟩;have gg:bc.n=s.n:=a5.1;have ml:bc.ag=s.n:=a5.2;have aR:=Z.n;have J:=Z.eK;have U:=Z.ag;unfold cJ;rw[av.bad];simp only[hp,hd];have E:kG dT f args { s with ag:=s.n } =(args',bs,bc):=(s8 hk _ _).trans av.run;rw[E];simp only[];rw[h];have eP:qI aP st bs (Nat.ble s.n bc.ag)=true:=by
  have:Nat.ble s.n bc.ag=true:=by rw[eu,ml];exact cg _
  rw[this];cases aP with
  |false=>rfl
  |true=>cases st with
   |false=>rfl
   |true=>rw[ai rfl rfl];rfl
 simp only[eP];refine ⟨_,rfl,⟨by simp only[gg];exact aR,tF Y D,gb u1 (by simp only[gg];omega)⟩,⟨by simp only[gg];omega,λc _ aa=>av.out aa⟩,gg,λc cs iK=>?_⟩;obtain ⟨e,bw,own,au⟩:=iK;exact av.rd ⟨e,bw,own,au⟩
theorem qO{ao s:S}{b t z:Nat}{bw:Bool}{cs l:List V}(h:dN ao s b cs t bw)(Z:Loc ao s)(aR:ao.ag=ao.n)(aY:l.length=z)(aa:cs.length=z)(av:l.all atom=true):
  (bZ (c6 s (ef z (.ptr b 0) (.agg l) (aN s))) λ_ s'=>bB ao s' [bf z s' (.ptr b 0)])=some (.agg l,ao):=by
 have ae:l.all bL=true:=by
  rw[fj]at av ⊢;exact λx hx=>Jy (av x hx)
 obtain ⟨s',aC,bb,bk,_,_⟩:=h.put Z aY aa ae;rw[aC,js,kN bb.rd (show 0+z<=l.length by omega),h5,l2 D];exact e7 av D bk.eK
theorem SX{s s':S}{o:Option (V×S)}{v:V}{r w:Reach}(h:c6 s o=some (v,s')):∃t,o=some (v,t)∧e9 r w s o=some (v,s',⟨⟨r,(match Nat.blt t.ag s.n with
  |true=>w
  |false=>some []),s.n,t.n⟩,[]⟩):=by
 cases o with
 |none=>cases h
 |some p=>
  obtain ⟨u,t⟩:=p;simp only[c6,cU,c4]at h;obtain ⟨rfl,rfl⟩:=h;exact ⟨t,rfl,rfl⟩
theorem WV{ao s:S}{e z l n:Nat}{te:cb}{x y:V}{cs d:List V}{r w:Reach}(Z:Loc ao s)(hx:cl ao s e z x l cs)(xo:en y=false)(jx:∀t,y≠ .str t)(hi:items te (aN s) y=some (n,d))(ai:d.all bL=true)(fF:d.length=n*z)
  (ae:te.size=z) (Y:0<te.bytes) (hlen:(l+n)*te.bytes<=140737488355328):
  ∃v' s' w' hi,e9 r w s (fD te e x y (aN s))=some (v',s',⟨⟨r,w',s.n,hi⟩,[]⟩)∧cl ao s' e z v' (l+n) (cs++d)∧Loc ao s'∧fX s s' (b4 x)∧(∀b,b∈b4 v'->b∈b4 x∨s.n<=b)∧(w'=some []∨(w'=w∧ ∀b,b∈b4 v'->s.n<=b)):=by
 obtain ⟨v',s',J,U,aj,aH,bD,t',cF,dV⟩:=WW Z hx xo jx hi ai fF ae Y hlen;obtain ⟨t,fL,jH⟩:=SX (r:=r) (w:=w) J;rw[cF]at fL;obtain ⟨_,rfl⟩:v'=v'∧t'=t:=by simpa using fL
 refine ⟨v',s',_,_,jH,U,aj,aH,bD,?_⟩;rcases dV with dV|dV
 left;have:Nat.blt t'.ag s.n=false:=by cases h:Nat.blt t'.ag s.n with
  |false=>rfl
  |true=>rw[gy]at h;omega
 rw[this];cases Nat.blt t'.ag s.n with
 |false=>exact .inl rfl
 |true=>exact .inr ⟨rfl,dV⟩
theorem ahm{ao s:S}{e z l n:Nat}{te:cb}{x y:V}{cs d:List V}{r w:Reach}(Z:Loc ao s)(hx:cl ao s e z x l cs)(aI:cl ao s e z y n d)(ai:d.all bL=true)
  (ae:te.size=z) (Y:0<te.bytes) (hlen:(l+n)*te.bytes<=140737488355328):
  ∃v' s' w' hi,e9 r w s (fD te e x y (aN s))=some (v',s',⟨⟨r,w',s.n,hi⟩,[]⟩)∧cl ao s' e z v' (l+n) (cs++d)∧Loc ao s'∧fX s s' (b4 x)∧(∀b,b∈b4 v'->b∈b4 x∨s.n<=b)∧(w'=some []∨(w'=w∧ ∀b,b∈b4 v'->s.n<=b)):=
 WV Z hx aI.bad aI.str (aI.items ae (λ_ _=>rfl)) ai aI.cells ae Y hlen
def kC(m:List Nat)(n:Nat)(kU:List Nat):Nat->List ct->Prop
 |_,[]=>True
 |i,x::l=>((x.f.w=some []∨ ∃bs,x.f.w=some bs∧(∀b,b∈bs->b∉kU)∧(List.range n).all (λj=>fixed m i j)=true)∧ ∀c,c∈x.z->c∈kU)∧kC m n kU (i+1) l
theorem kC.at{m:List Nat}{n:Nat}{kU:List Nat} :∀ {l:List ct} {i j:Nat} {x:ct},kC m n kU i l->l[j]? =some x->(x.f.w=some []∨ ∃bs,x.f.w=some bs∧(∀b,b∈bs->b∉kU)∧(List.range n).all (λk=>fixed m (i+j) k)=true)∧ ∀c,c∈x.z->c∈kU
 |x::l,i,0,y,h,aG=>by simp at aG;subst aG;exact h.1
 |x::l,i,j+1,y,h,aG=>by
  have:=kC.at (j:=j) h.2 (by simpa using aG)
  rwa [show i+1+j=i+(j+1) by omega]at this
theorem zV{m:List Nat}{l:List ct}(kU:List Nat)(n:Nat)(a5:l.length=n)(h:kC m n kU 0 l):fe m l=true:=by
 apply O8;intro i x hx;rcases (h.at hx).1 with J|⟨bs,J,U,aj⟩
 exact .inl J;cases bs with
 |nil=>exact .inl J
 |cons b bs=>
  refine .inr ⟨⟨b,bs,J,λy aI c aa aY=>?_⟩,λj aG=>?_⟩;obtain ⟨k,hk⟩:=sO aI;exact U c aa ((h.at hk).2 c aY);have:=fj.1 aj j (by rw[Bn];omega)
  rwa [gD]at this
theorem kC.eY{m:List Nat}{n i:Nat}{kU:List Nat}{l:List ct}{t:Reach}{lo hi:Nat}(h:kC m n kU (i+1) l):kC m n kU i (eM t lo hi []::l):=⟨⟨.inl rfl,λ_ h=>by cases h⟩,h⟩
theorem kC.lL{m:List Nat}{n i:Nat}{kU:List Nat}{l:List ct}{t:Reach}{lo hi:Nat}{z:List Nat}(aY:∀c,c∈z->c∈kU)(h:kC m n kU (i+1) l):kC m n kU i (eM t lo hi z::l):=⟨⟨.inl rfl,aY⟩,h⟩
theorem kC.oO{m:List Nat}{n i:Nat}{kU:List Nat}{l:List ct}{t w:Reach}{lo hi:Nat}(hw:w=some []∨ ∃bs,w=some bs∧ ∀b,b∈bs->b∉kU)(aM:(List.range n).all (λj=>fixed m i j)=true)(h:kC m n kU (i+1) l):kC m n kU i (⟨⟨t,w,lo,hi⟩,[]⟩::l):=
 ⟨⟨hw.imp id λ⟨bs,J,U⟩=>⟨bs,J,U,aM⟩,λ_ h=>by cases h⟩,h⟩
end Go.ah.X
namespace Go.ah.X
open Go Go.ah Go.Proofs.dI
theorem dz.ep{z:Nat}{v:V}{l:Nat}{cs:List V}(h:dz z v l cs):ep v=true:=by cases h<;>rfl
theorem ass:g3.bytes=8:=rfl
theorem aiu{x y:V}{a b:List Int}(hx:bV .i64 x a)(aI:bV .i64 y b)(Z:a.length<9223372036854775807):km a9 47 [x,y] (.bool (decide (a=b))):=λs ae=>
 (VK (cv aS)).run (a.length+1) (by
  show IT a9 _ x y s=_;unfold IT;simp only[cw];by_cases h:a.length=b.length;simp (disch:=omega) only[eI,st,bg,hx.len,aI.len];refine jO (λr=>r=_) (λk vs s'=> ∃i:Int,vs=[.int .i64 i,x,y]∧s'=s∧0<=i∧i+k=a.length∧ ∀j:Nat,j<i->a.getD j 0=b.getD j 0) ?_ _ a.length _ _ ⟨0,rfl,rfl,D,D,D⟩ D;rintro a3 k _ _ ⟨i,rfl,rfl,aR,J,al⟩ cR;by_cases hi:i<a.length;simp (disch:=omega) only[eI,st,bg,hx.len,aI.len,hx.c1,aI.c1,hb];by_cases he:a.getD i.toNat 0=b.getD i.toNat 0;simp (disch:=omega) only[eI,st,he,bT,not_true,ne_eq];refine cR (k - 1) _ _ D ⟨i+1,rfl,rfl,D,D,λj aG=>?_⟩;by_cases vW:(j:Int)=i
  rwa [show j=i.toNat by omega]
  exact al j D;rw[Cc _ _ (by exact he),e7 rfl D D,e3 (λe=>he (by rw[e]))];simp (disch:=omega) only[eI,st,bg,hx.len,aI.len];rw[e7 rfl D D,gi (akG h λj aG=>al j D)];simp (disch:=omega) only[eI,st,bg,hx.len,aI.len];rw[e7 rfl D D,e3 (λe=>h (by rw[e]))]) D
def pW(l:List Int)(i m:Int):Int:=if i<0∨l.length<=i then 0 else oI (l.getD i.toNat 0) m
theorem JF{v:V}{l:List Int}(ad:bV .i64 v l)(E:∀x,x∈l->ez x)(i m:Int)(hm:0<m)(kI:m<=9223372036854775807):km a9 29 [v,.int .i64 i,.int .i64 m] (.int .i64 (pW l i m)):=λs ae=>
 (Vy (cv aS)).run 0 (by
  show IF a9 0 v (.int .i64 i) (.int .i64 m) s=_;unfold IF pW;simp only[cw];by_cases h:i<0∨l.length<=i;rw[if_pos h];by_cases aR:i<0;simp (disch:=omega) only[eI,st,bg,ad.len];rw[e7 rfl D D];simp (disch:=omega) only[eI,st,bg,ad.len];rw[e7 rfl D D];rw[if_neg h];have hx:=E _ (PD l 0 (show i.toNat<l.length by omega));have aC:=hh (aP:=false) (st:=false) (oN (l.getD i.toNat 0) m hx.1 hx.2 hm kI) rfl (s:=s) D;simp (disch:=omega) only[eI,st,bg,ad.len,ad.c1,hb,aC];rw[e7 rfl D D]) D
theorem ajH{z:Nat}{v:V}{l:Nat}{cs:List V}(ad:dz z v l cs):(v=.af∧bH .eql (aJ.get types 22) v .af=some (.bool true))∨bH .eql (aJ.get types 22) v .af=some (.bool false):=by
 cases ad with
 |nil=>exact .inl ⟨rfl,rfl⟩
 |mk=>exact .inr rfl
theorem ait{v:V}{l:List Int}(ad:bV .i64 v l)(hlen:l.length<=1000000000):agX a9 45 [v] 3 1 l.length (fp l):=λs ae=>
 (VF (cv aS)).runN 0 (by
  show pT s 3 1 _ _ (IM a9 0 v s);unfold IM;simp only[cw];rcases ajH ad with ⟨h,e⟩|e
  simp (disch:=omega) only[RH,st,bg,e];subst h;have Z:l=[]:=by cases l with
   |nil=>rfl
   |cons _ _=>cases ad
  subst Z;exact Cl ae (Loc.refl ae) cl.nil rfl;simp (disch:=omega) only[RH,st,bg,e];obtain ⟨x,s1,aC,dm,bk,aB,bb⟩:=uq (e:=3) (z:=1) (len:=0) (c:=cC 0 [(.int .i64 0)]) (ps:=[]) (l:=[]) (Loc.refl ae) rfl rfl;obtain ⟨y,s2,ba,fg,cn,aT,bU⟩:=Ju (te:=g3) bk dm ad (Lv _ _) rfl aS (by rw[ass];omega);simp (disch:=omega) only[RH,st,bg,aC,ba];simp only[gD,hp]at fg;exact Cl ae cn fg (lR _ _)) D
theorem arx(z:Nat)(k:IntKind):jn z .af none (some (.int k 0)) none=some .af:=by
 have:bound (some (.int k 0)) 0 0=some 0:=ur D D;unfold jn;simp only[show bound none 0 0=some 0 from rfl,this]
theorem abF(k:IntKind)(a b:Int):mq true [.int k a,.int k b]=some (.int k (if b>a then b else a)):=rfl
theorem rb(neg:Bool){v:V}{l:List Int}(ad:bV .i64 v l)(ai:ea l)(hlen:l.length<=1000000000):h6 a9 116 [.bool neg,v] (bN (eA neg (a0 l))):=λs ae=>
 (UA (cv aS)).kQ (l.length+1) (by
  show eE s _ (HE a9 _ (.bool neg) v s);unfold HE;simp only[cw];obtain ⟨s1,aC,bb,bk,aB,ed⟩:=eL [.bool false,.af] 43 (Loc.refl ae);simp (disch:=omega) only[cW,st,bg,aC,ad.len];refine jO (eE s _) (λk vs t=>vs=[.bool neg,v,.int .i64 k,.ptr s.n 0]∧s1=t∧k<=l.length∧a0 (l.take k)=a0 l) ?_ _ l.length _ _ ⟨rfl,rfl,cg _,by rw[oB]⟩ D;rintro a3 k _ _ ⟨rfl,rfl,hk,Au⟩ cR;by_cases aR:k=0;subst aR;have aY:a0 l=0:=by rw[<-Au];rfl
  obtain ⟨s2,ba,bU,cn,aT,gu⟩:=bb.put (z:=2) (l:=[.bool false,.af]) bk rfl rfl rfl;simp (disch:=omega) only[cW,st,bg,uB,ba,bU.bM];refine ⟨_,⟨.af,?_,?_⟩,e7 rfl D cn.eK⟩;rw[aY];unfold eA;cases neg<;>rfl;rw[aY];have:(eA neg 0).natAbs=0:=by unfold eA;cases neg<;>rfl
  rw[this,jm];exact bV.nil _;by_cases aY:l.getD (k - 1) 0=0;simp (disch:=omega) only[cW,st,bg,bT,abF,show ¬(0:Int)>(k:Int) - 1 by omega, ↓reduceIte,ad.c1,hb,show ((k:Int) - 1).toNat=k - 1 by omega,aY];refine cR (k - 1) _ _ D ⟨by rw[show ((k - 1:Nat):Int)=(k:Int) - 1 by omega],rfl,D,adW D aY Au⟩;obtain ⟨J,U⟩:=adV ai D hk aY Au;obtain ⟨w,hw,hi⟩:=ad.arv (q':=.i64) (hi:=k) D D;rw[dZ]at hi;obtain ⟨s2,ba,bU,cn,aT,gu⟩:=bb.put (z:=2) (l:=[.bool neg,w]) bk rfl rfl (by show (bL (.bool neg) && (bL w && true))=true;rw[dz.bL hi];rfl);simp (disch:=omega) only[cW,st,bg,bT,abF,show ¬(0:Int)>(k:Int) - 1 by omega, ↓reduceIte,ad.c1,hb,show ((k:Int) - 1).toNat=k - 1 by omega];have aM:bW [.bool false,.af] [(0,1,.bool neg),(1,1,w)]=some (.agg [.bool neg,w]):=Pl rfl (dz.bL hi);simp (disch:=omega) only[cW,st,bg,bT,hw,aM,ba,bU.bM];refine ⟨_,⟨w,?_,?_⟩,e7 ?_ D cn.eK⟩;rw[Ms neg U];rw[Dh neg D,J];exact hi;show (atom (.bool neg) && (atom w && true))=true;rw[hi.atom];rfl) D
theorem EF{v:V}{l:List Int}(ad:bV .i64 v l)(hlen:l.length<=1000000000){i:Int}(hi:0<=i):km a9 163 [v,.int .i64 i] (.int .i64 (l.getD i.toNat 0)):=λs ae=>
 (U6 (cv aS)).run 0 (by
  show Ia a9 0 v (.int .i64 i) s=_;unfold Ia;simp only[cw];by_cases h:i<l.length;simp (disch:=omega) only[eI,st,bg,ad.len,ad.c1,hb];rw[e7 rfl D D];simp (disch:=omega) only[eI,st,bg,ad.len];rw[e7 rfl D D,xj _ _ D]) D
theorem EE{v w:V}{x y:Nat}(ad:bV .i64 v (aL x))(hw:bV .i64 w (aL y))(Z:(aL x).length<=1000000000):km a9 118 [v,w] (.int .i64 (e8 x y)):=λs ae=>
 (UC (cv aS)).run ((aL x).length+1) (by
  show HG a9 _ v w s=_;unfold HG;simp only[cw];have J:=gq x;have U:=gq y;have hx:=gK x;have aI:=gK y;by_cases av:(aL x).length<(aL y).length;have:=Gu av;simp (disch:=omega) only[eI,st,bg,ad.len,hw.len];rw[e7 rfl D D];unfold e8;rw[if_pos D];by_cases Y:(aL y).length<(aL x).length;have:=Gu Y;simp (disch:=omega) only[eI,st,bg,ad.len,hw.len];rw[e7 rfl D D];unfold e8;rw[if_neg D,if_pos D];simp (disch:=omega) only[eI,st,bg,ad.len,hw.len,bT];generalize aL x=a at*;generalize aL y=b at*;refine jO (λr=>r=_) (λk vs t=>vs=[.int .i64 ((k:Int) - 1),v,w]∧s=t∧k<=a.length∧a.drop k=b.drop k) ?_ _ a.length _ _ ⟨rfl,rfl,cg _,by rw[pb (cg _),pb D]⟩ D;rintro a3 k _ _ ⟨rfl,rfl,hk,he⟩ cR;by_cases aR:k=0;subst aR;simp (disch:=omega) only[eI,st,bg];rw[e7 rfl D D];rw[h5,h5]at he;rw[he,U]at J;unfold e8;rw[if_neg D,if_neg D];obtain ⟨k,rfl⟩:∃j,k=j+1:=⟨k - 1,D⟩;have aC:((k+1:Nat):Int) - 1=k:=D;rw[aC];by_cases b6:a.getD k 0<b.getD k 0;have:=JQ D hx aI D he b6;simp (disch:=omega) only[eI,st,bg,ad.c1,hw.c1,hb];rw[e7 rfl D D];unfold e8;rw[if_pos D];by_cases ob:b.getD k 0<a.getD k 0;have:=JQ D aI hx D he.symm ob;simp (disch:=omega) only[eI,st,bg,ad.c1,hw.c1,hb];rw[e7 rfl D D];unfold e8;rw[if_neg D,if_pos D];simp (disch:=omega) only[eI,st,bg,ad.c1,hw.c1,hb,bT];refine cR k _ _ D ⟨rfl,rfl,D,?_⟩;rw[ET a 0 D,ET b 0 D,he,show a.getD k 0=b.getD k 0 by omega]) D
theorem ah9{v w:V}{a b:List Int}(ad:bV .i64 v a)(hw:bV .i64 w b)(av:ea a)(Y:ea b)(uP:a.length<=1000000000)(p5:b.length<=1000000000):
  BI a9 117 [v,w] 3 .i64 (λl=>ea l∧a0 l=a0 a+a0 b∧l.length<=a.length+b.length+1):=λs ae=>
 (UB (cv aS)).GK (a.length+b.length+2) (by
  show l5 s 3 .i64 _ (HF a9 _ v w s);unfold HF;simp only[cw];simp (disch:=omega) only[uY,st,bg];refine jO (l5 s 3 .i64 _) (λk vs t=> ∃(x:V) (o:List Int) (c:Int),vs=[.int .i64 c,.int .i64 (o.length:Int),v,w,x]∧Loc s t∧cl s t 3 1 x o.length (fp o)∧ea o∧0<=c∧c<=1∧a0 o+ck o.length*c=a0 (a.take o.length)+a0 (b.take o.length)∧
   o.length+k=a.length+b.length+1∧(o.length=a.length+b.length+1->c=0)) ?_ _ (a.length+b.length+1) _ _
   ⟨.af,[],0,rfl,Loc.refl ae,.nil,EN,D,D,by simp[a0],by simp,D⟩ D
  rintro a3 k _ t ⟨x,o,c,rfl,Z,aE,ai,uF,hB,he,hk,auJ⟩ cR;have FF:=jt av o.length;have ZP:=jt Y o.length;rcases (show (o.length<a.length)∨(¬o.length<a.length∧o.length<b.length)∨(¬o.length<a.length∧ ¬o.length<b.length∧0<c)∨(¬o.length<a.length∧ ¬o.length<b.length∧ ¬0<c) by omega) with h|⟨h,h'⟩|⟨h,h',Ku⟩|⟨h,h',Ku⟩
  rotate_right
  simp (disch:=omega) only[uY,st,bg,ad.len,hw.len];refine E5 ae Z aE ⟨ai,?_,D⟩;rw[l2 D,l2 D,show c=0 by omega]at he;omega;all_goals
   have aC:=hh (aP:=false) (st:=false) (EF ad uP (i:=o.length) D) (by simp only[gS,pM,wP,ad.a2];rfl) (s:=t) Z.ag;have ba:=hh (aP:=false) (st:=false) (EF hw p5 (i:=o.length) D) (by simp only[gS,pM,wP,hw.a2];rfl) (s:=t) Z.ag;rw[dZ]at aC ba;simp (disch:=omega) only[uY,st,bg,ad.len,hw.len,aC,ba,bT];obtain ⟨y,t1,cd,fy,dM,bp,cP⟩:=Jt (z:=.int .i64 0) (d:=.int .i64 ((a.getD o.length 0+b.getD o.length 0+c) % 1000000000)) (te:=g3) Z aE rfl rfl aS (by rw[show g3.bytes=8 from rfl];omega);rw[cd];refine cR (k - 1) _ _ D ⟨y,o++ [(a.getD o.length 0+b.getD o.length 0+c) % 1000000000],(a.getD o.length 0+b.getD o.length 0+c) / 1000000000,by rw[hZ];rfl,dM,by simpa using fy,JV ai (EO D),D,D,?_,by rw[hZ];simp;omega,λdE=>?_⟩;rw[ad3,hZ,Hk,sb,qT,qT];have aj:=carry (a.getD o.length 0+b.getD o.length 0+c) (ck o.length);rw[qZ,qZ]at aj;omega;rw[hZ,Hk]at dE;by_cases aY:a.length+b.length=0;have J:a.getD o.length 0=0:=xj _ _ D;have U:b.getD o.length 0=0:=xj _ _ D;omega;have J:a.getD o.length 0=0:=xj _ _ D;have U:b.getD o.length 0=0:=xj _ _ D;omega) D
theorem ON{v w:V}{a b:List Int}(ad:bV .i64 v a)(hw:bV .i64 w b)(av:ea a)(Y:ea b)(uP:a.length<=1000000000)(p5:b.length<=1000000000)(hle:a0 b<=a0 a):
  BI a9 119 [v,w] 3 .i64 (λl=>ea l∧a0 l=a0 a - a0 b∧l.length=a.length):=λs ae=>
 (UD (cv aS)).GK (a.length+1) (by
  show l5 s 3 .i64 _ (HH a9 _ v w s);unfold HH;simp only[cw];simp (disch:=omega) only[uY,st,bg];refine jO (l5 s 3 .i64 _) (λk vs t=> ∃(x:V) (o:List Int) (c:Int),vs=[.int .i64 c,.int .i64 (o.length:Int),v,w,x]∧Loc s t∧cl s t 3 1 x o.length (fp o)∧ea o∧0<=c∧c<=1∧a0 o - ck o.length*c=a0 (a.take o.length) - a0 (b.take o.length)∧o.length+k=a.length) ?_ _ a.length _ _
   ⟨.af,[],0,rfl,Loc.refl ae,.nil,EN,D,D,by simp[a0],by simp⟩ D
  rintro a3 k _ t ⟨x,o,c,rfl,Z,aE,ai,uF,hB,he,hk⟩ cR;have FF:=jt av o.length;have ZP:=jt Y o.length;by_cases h:o.length<a.length;have ba:=hh (aP:=true) (st:=false) (EF hw p5 (i:=o.length) D) (by simp only[gS,pM,wP,hw.a2];rfl) (s:=t) Z.ag;rw[dZ]at ba;simp (disch:=omega) only[uY,st,bg,ad.len,ad.c1,hb,dZ,ba,bT];have v5:∀(d bj:Int),0<=d->d<1000000000->0<=bj->bj<=1->d=a.getD o.length 0 - b.getD o.length 0 - c+1000000000*bj->
    a0 (o++ [d]) - ck (o++ [d]).length*bj=a0 (a.take (o++ [d]).length) - a0 (b.take (o++ [d]).length):=by
   intro d bj _ _ _ _ g1;rw[ad3,hZ,Hk,sb,qT,qT,g1]
   grind
  by_cases vY:a.getD o.length 0 - b.getD o.length 0 - c<0;simp (disch:=omega) only[uY,st,bg,bT];obtain ⟨y,t1,cd,fy,dM,bp,cP⟩:=Jt (z:=.int .i64 0) (d:=.int .i64 (a.getD o.length 0 - b.getD o.length 0 - c+1000000000)) (te:=g3) Z aE rfl rfl aS (by rw[show g3.bytes=8 from rfl];omega);rw[cd];exact cR (k - 1) _ _ D ⟨y,o++ [a.getD o.length 0 - b.getD o.length 0 - c+1000000000],1,by rw[hZ];rfl,dM,by simpa using fy,JV ai (EO D),D,D,v5 _ 1 D D D D D,by rw[hZ];simp;omega⟩;simp (disch:=omega) only[uY,st,bg,bT];obtain ⟨y,t1,cd,fy,dM,bp,cP⟩:=Jt (z:=.int .i64 0) (d:=.int .i64 (a.getD o.length 0 - b.getD o.length 0 - c)) (te:=g3) Z aE rfl rfl aS (by rw[show g3.bytes=8 from rfl];omega);rw[cd];exact cR (k - 1) _ _ D ⟨y,o++ [a.getD o.length 0 - b.getD o.length 0 - c],0,by rw[hZ];rfl,dM,by simpa using fy,JV ai (EO D),D,D,v5 _ 0 D D D D D,by rw[hZ];simp;omega⟩;simp (disch:=omega) only[uY,st,bg,ad.len];refine E5 ae Z aE ⟨ai,?_,D⟩;have kJ:o.length=a.length:=D;rw[kJ,oB]at he;have J:=ou ai;have U:=nw ai;have aj:=ou av;have bD:=nw (vF a.length Y);rw[kJ]at J;have fL:a0 b=a0 (b.take a.length)+ck a.length*a0 (b.drop a.length):=by
   by_cases n6:a.length<=b.length;exact rW b _ n6;rw[l2 D,pb D];simp[a0]
  have cF:=nw (zS a.length Y);have dV:=l9 a.length;have jH:a0 (b.drop a.length)=0:=by
   rcases (show a0 (b.drop a.length)=0∨1<=a0 (b.drop a.length) by omega) with h|h
   exact h;have:ck a.length*1<=ck a.length*a0 (b.drop a.length):=nz h D;omega
  rw[jH]at fL;rcases (show c=0∨c=1 by omega) with rfl|rfl
  omega;omega) D
theorem qx{ao s:S}{cs l:List V}{t z:Nat}(Z:Loc ao s)(aY:l.length=z)(aa:cs.length=z)(hx:l.all bL=true):
  ∃s',(∀K:V->S->ax,(bZ (c6 s (gv cs t (aN s))) λp bc=>bZ (c6 bc (ef z p (.agg l) (aN bc))) λ_ aK=>K p aK)=K (.ptr s.n 0) s')∧dN ao s' s.n l t false∧Loc ao s'∧fX s s' []∧s'.n=s.n+1:=by
 obtain ⟨s1,aC,bb,bk,aB,ed⟩:=eL cs t Z;obtain ⟨s2,ba,bU,cn,aT,gu⟩:=bb.put bk aY aa hx;refine ⟨s2,λK=>by rw[aC,js,ba,js],bU,cn,⟨by have:=aB.1;have:=aT.1;omega,λc aa _=>?_⟩,D⟩;rw[aT.2 c D (by simp;omega),aB.2 c aa (by simp)]
theorem xf(a b:Bool):bH .eql (aJ.get types 4) (.bool a) (.bool b)=some (.bool (decide (a=b))):=by cases a<;>cases b<;>rfl
theorem Gw(a b:Bool):bH .neq (aJ.get types 4) (.bool a) (.bool b)=some (.bool (decide (a≠b))):=by cases a<;>cases b<;>rfl
theorem j9{d:V}{x:Int}(ai:bV .i64 d (aL x.natAbs)):([.bool (decide (x<0)),d]:List V).all atom=true∧([.bool (decide (x<0)),d]:List V).all bL=true:=by
 constructor;show (atom (.bool (decide (x<0))) && (atom d && true))=true;rw[bV.atom ai];rfl;show (bL (.bool (decide (x<0))) && (bL d && true))=true;rw[dz.bL ai];rfl
theorem MM(x:Int):a0 (aL x.natAbs)=(x.natAbs:Int):=gq _
theorem nm{x:Nat}{n:Nat}(h:x<1000000000 ^ n):(aL x).length<=n:=by
 induction n generalizing x with
 |zero=>
  have:x=0:=by simpa using h
  subst this;simp[jm]
 |succ n a3=>
  by_cases aR:x=0;subst aR;simp[jm];rw[tJ aR,qW];have:=a3 (x:=x / 1000000000) (by rw[Nat.pow_succ]at h;omega);omega
theorem yn(n:Int)(E:ez n):h6 a9 67 [.int .i64 n] (bN n):=λs ae=>
 (VQ (cv aS)).kQ (n.natAbs+2) (by
  show eE s _ (IZ a9 _ (.int .i64 n) s);unfold IZ;simp only[cw];have J:=E.1;have U:=E.2;obtain ⟨s1,aC,bb,bk,aB,ed⟩:=eL [.bool false,.af] 43 (Loc.refl ae);simp (disch:=omega) only[cW,st,bg,aC];refine jO (eE s _) (λk vs t=> ∃(x:V) (o:List Int),vs=[.int .i64 (eA (decide (n<0)) k),.bool (decide (n<0)),x,.ptr s.n 0]∧Loc s t∧cl s t 3 1 x o.length (fp o)∧dN s t s.n [.bool false,.af] 43 false∧(∀c,c∈b4 x->c≠s.n)∧ea o∧o.length<=3∧o++aL k=aL n.natAbs∧k<=n.natAbs) ?_ _ n.natAbs _ _
   ⟨.af,[],?_,bk,.nil,bb,(λc aa=>by cases aa),EN,by simp,rfl,cg _⟩ D
  rintro a3 k _ t ⟨x,o,rfl,Z,aE,Y,hx,ai,kJ,he,hk⟩ cR;have aj:=nm (x:=n.natAbs) (n:=3) D;by_cases aR:k=0;subst aR;rw[jm,hd]at he;have aY:eA (decide (n<0)) 0=0:=by unfold eA;split<;>rfl
  obtain ⟨x',lZ,av,h3⟩:=vM [.bool (decide (n<0))] [] aE (lR _ _) rfl rfl;obtain ⟨v,ad,s2,ba,cn,aT,gu,bM⟩:=Ca (aP:=false) (st:=true) Z av (λb Y=>(aE.lo Y).1) (λ_ h=>by cases h) (rb (decide (n<0)) h3 ai D);simp only[sQ,hp]at ba;simp (disch:=omega) only[cW,st,bg,show ((0:Nat):Int)=0 from rfl,aY,ne_eq,not_true,ba];rw[he,MM]at ad;have k4:eA (decide (n<0)) (n.natAbs:Int)=n:=by unfold eA;by_cases h:n<0<;>simp[h]<;>omega
  rw[k4]at ad;obtain ⟨d,rfl,rr⟩:=ad;have rp:=Y.a1 aT (λaa=>hx _ aa rfl);exact ⟨_,⟨d,rfl,rr⟩,qO rp cn ae rfl rfl (j9 rr).1⟩;have ey:eA (decide (n<0)) (k:Int)≠0:=by unfold eA;split<;>omega
  rw[tJ aR]at he;have hlen:=congrArg List.length he;rw[hZ,qW]at hlen;obtain ⟨y,t1,cd,fy,dM,bp,cP⟩:=Jt (z:=.int .i64 0) (d:=.int .i64 ((k:Int) % 1000000000)) (te:=g3) Z aE rfl rfl aS (by rw[show g3.bytes=8 from rfl];omega);have CN:a3 [.int .i64 (eA (decide (n<0)) ((k / 1000000000:Nat):Int)),.bool (decide (n<0)),y,.ptr s.n 0] t1=a3 [.int .i64 (eA (decide (n<0)) ((k / 1000000000:Nat):Int)),.bool (decide (n<0)),y,.ptr s.n 0] t1:=rfl;have ih:=Y.hi;have ie:eE s (bN n) (a3 [.int .i64 (eA (decide (n<0)) ((k / 1000000000:Nat):Int)),.bool (decide (n<0)),y,.ptr s.n 0] t1):=
   cR (k / 1000000000) _ _ D ⟨y,o++ [((k % 1000000000:Nat):Int)],rfl,dM,by simpa using fy,Y.a1 bp (λaa=>hx _ aa rfl),λc aa=>(cP c aa).elim (hx c) (λh=>D),JV ai (EO D),by rw[hZ];simp;omega,by simpa using he,D⟩
  by_cases a5:n<0;simp only[a5,decide_true,eA, ↓reduceIte]at ey ie ⊢;have X3:Int.tmod (-(k:Int)) 1000000000= -((k:Int) % 1000000000):=by rw[Int.neg_tmod,Int.tmod_eq_emod_of_nonneg D]
  have X4:Int.tdiv (-(k:Int)) 1000000000= -((k:Int) / 1000000000):=by rw[Int.neg_tdiv,Int.tdiv_eq_ediv_of_nonneg D]
  rw[show ((k / 1000000000:Nat):Int)=(k:Int) / 1000000000 by omega]at ie;by_cases aY:(k:Int) % 1000000000=0;rw[aY]at cd;simp (disch:=omega) only[cW,st,bg,SC,Mg,X3,X4,aY,Int.neg_zero,bT,cd];exact ie;simp (disch:=omega) only[cW,st,bg,SC,Mg,X3,X4,G6,bT,Int.sub_neg,Int.zero_add,cd];exact ie;simp only[a5,decide_false,eA, ↓reduceIte,vj]at ey ie ⊢;rw[show ((k / 1000000000:Nat):Int)=(k:Int) / 1000000000 by omega]at ie;simp (disch:=omega) only[cW,st,bg,bT,cd];exact ie;have:eA (decide (n<0)) (n.natAbs:Int)=n:=by unfold eA;by_cases h:n<0<;>simp[h]<;>omega
  rw[this]) D
theorem Mj{ao s:S}{b t z:Nat}{bw:Bool}{l:List V}(h:dN ao s b l t bw)(Z:Loc ao s)(aR:ao.ag=ao.n)(aY:l.length=z)(av:l.all atom=true):bB ao s [bf z s (.ptr b 0)]=some (.agg l,ao):=by
 rw[kN h.rd (show 0+z<=l.length by omega),h5,l2 D];exact e7 av D Z.eK
theorem o3:(bH .eql (aJ.get types 4) (.bool true) (.bool true)=some (.bool true))∧(bH .eql (aJ.get types 4) (.bool true) (.bool false)=some (.bool false))∧(bH .eql (aJ.get types 4) (.bool false) (.bool true)=some (.bool false))∧(bH .eql (aJ.get types 4) (.bool false) (.bool false)=some (.bool true))∧
  (bH .neq (aJ.get types 4) (.bool true) (.bool true)=some (.bool false))∧(bH .neq (aJ.get types 4) (.bool true) (.bool false)=some (.bool true))∧(bH .neq (aJ.get types 4) (.bool false) (.bool true)=some (.bool true))∧(bH .neq (aJ.get types 4) (.bool false) (.bool false)=some (.bool false)):=
 ⟨rfl,rfl,rfl,rfl,rfl,rfl,rfl,rfl⟩
theorem OL{x:Int}{a:V}(av:bN x a)(hlen:(aL x.natAbs).length<=1000000000):h6 a9 114 [a] (bN (-x)):=λs ae=>
 (Uy (cv aS)).kQ 0 (by
  obtain ⟨d,rfl,ai⟩:=av;show eE s _ (HC a9 0 (.agg [.bool (decide (x<0)),d]) s);unfold HC;simp only[cw];obtain ⟨s1,aC,bb,bk,aB,ed⟩:=eL [.bool (decide (x<0)),d] 43 (Loc.refl ae);obtain ⟨s2,ba,bU,cn,aT,gu⟩:=eL [.bool false,.af] 43 bk;have fk:=bb.a1 aT (by simp);obtain ⟨v,ad,cd⟩:=hI (aP:=false) (st:=true) (rb (!decide (x<0)) ai (gK _) hlen) (by show (true && (a2 d && true))=true;rw[bV.a2 ai];rfl) cn.ag;simp (disch:=omega) only[cW,st,bg,gf,aC,ba,du,fk.bM,o8,cd];rw[MM]at ad;have k4:eA (!decide (x<0)) (x.natAbs:Int)= -x:=by unfold eA;by_cases h:x<0<;>simp[h]<;>omega
  rw[k4]at ad;obtain ⟨bK,rfl,eP⟩:=ad;exact ⟨_,⟨bK,rfl,eP⟩,qO bU cn ae rfl rfl (j9 eP).1⟩) D
theorem JD{v:V}{l:List Int}(ad:bV .i64 v l)(ai:ea l)(hlen:l.length<=2):km a9 161 [v] (.int .i64 (a0 l)):=λs ae=>
 (U4 (cv aS)).run 0 (by
  show H8 a9 0 v s=_;unfold H8;simp only[cw];have aC:=hh (aP:=false) (st:=false) (EF ad D (i:=1) D) (by simp only[gS,pM,wP,ad.a2];rfl) (s:=s) D;have ba:=hh (aP:=false) (st:=false) (EF ad D (i:=0) D) (by simp only[gS,pM,wP,ad.a2];rfl) (s:=s) D;have J:=jt ai 1;have U:=jt ai 0;have aj:a0 l=l.getD 1 0*1000000000+l.getD 0 0:=by
   match l,hlen with
   |[],_=>rfl
   |[a],_=>simp[a0]
   |[a,b],_=>simp[a0];omega
   |a::b::c::l,h=>simp at h
  rw[show (1:Int).toNat=1 from rfl]at aC;rw[show (0:Int).toNat=0 from rfl]at ba;simp (disch:=omega) only[eI,st,bg,aC,ba,bT];rw[e7 rfl D D,aj]) D
theorem OO{x y:Int}{a b:V}(av:bN x a)(Y:bN y b)(Z:(aL x.natAbs).length<=1000000000)(dK:(aL y.natAbs).length<=1000000000):km a9 128 [a,b] (.int .i64 (e8 x y)):=λs ae=>
 (UF (cv aS)).run 0 (by
  obtain ⟨d,rfl,ai⟩:=av;obtain ⟨e,rfl,he⟩:=Y;show HJ a9 0 (.agg [.bool (decide (x<0)),d]) (.agg [.bool (decide (y<0)),e]) s=_;unfold HJ;simp only[cw];obtain ⟨s1,aC,bb,bk,aB,ed⟩:=eL [.bool (decide (x<0)),d] 43 (Loc.refl ae);obtain ⟨s2,ba,bU,cn,aT,gu⟩:=eL [.bool (decide (y<0)),e] 43 bk;have fk:=bb.a1 aT (by simp);have cd:=hh (aP:=false) (st:=false) (EE ai he Z) (by show (a2 d && (a2 e && true))=true;rw[bV.a2 ai,bV.a2 he];rfl) cn.ag;have ff:=hh (aP:=false) (st:=false) (EE he ai dK) (by show (a2 e && (a2 d && true))=true;rw[bV.a2 ai,bV.a2 he];rfl) cn.ag;simp (disch:=omega) only[eI,st,bg,gf,aC,ba,du,fk.bM,bU.bM];by_cases hx:x<0<;>by_cases aI:y<0
  ·simp (disch:=omega) only[eI,hx,aI,decide_true,o3,st,du,fk.bM,bU.bM,ff];rw[e7 rfl D cn.eK];congr 3;unfold e8
   (repeat' split)<;>omega
  ·simp (disch:=omega) only[eI,hx,aI,decide_true,decide_false,o3,st,du,fk.bM,bU.bM];rw[e7 rfl D cn.eK];unfold e8;rw[if_pos D]
  ·simp (disch:=omega) only[eI,hx,aI,decide_true,decide_false,o3,st,du,fk.bM,bU.bM];rw[e7 rfl D cn.eK];unfold e8;rw[if_neg D,if_pos D]
  ·simp (disch:=omega) only[eI,hx,aI,decide_false,o3,st,du,fk.bM,bU.bM,cd];rw[e7 rfl D cn.eK];congr 3;unfold e8
   (repeat' split)<;>omega) D
theorem bN.zero:bN 0 (.agg [.bool false,.af]):=⟨.af,rfl,by rw[show (0:Int).natAbs=0 from rfl,jm];exact bV.nil _⟩
theorem aib{x:Int}{a:V}(av:bN x a)(Z:(aL x.natAbs).length<=1000000000):km a9 120 [a] (.int .i64 (e8 x 0)):=λs ae=>
 (UE (cv aS)).run 0 (by
  have jZ:=av;obtain ⟨d,rfl,ai⟩:=av;show HI a9 0 (.agg [.bool (decide (x<0)),d]) s=_;unfold HI;simp only[cw];obtain ⟨s1,aC,bb,bk,aB,ed⟩:=eL [.bool (decide (x<0)),d] 43 (Loc.refl ae);have cd:=hh (aP:=false) (st:=false) (OO jZ bN.zero Z (by simp[jm])) (by show (_ && (true && true))=true;rw[jZ.a2];rfl) bk.ag;simp (disch:=omega) only[eI,st,gf,aC,bb.bM,uB,cd];rw[e7 rfl D bk.eK]) D
theorem OS{x y:Int}{a b:V}(av:bN x a)(Y:bN y b)(Z:(aL x.natAbs).length<=100000000)(dK:(aL y.natAbs).length<=100000000):h6 a9 70 [a,b] (bN (x+y)):=λs ae=>
 (VT (cv aS)).kQ 0 (by
  obtain ⟨d,rfl,ai⟩:=av;obtain ⟨e,rfl,he⟩:=Y;show eE s _ (I2 a9 0 (.agg [.bool (decide (x<0)),d]) (.agg [.bool (decide (y<0)),e]) s);unfold I2;simp only[cw];obtain ⟨s1,aC,bb,bk,aB,ed⟩:=eL [.bool (decide (x<0)),d] 43 (Loc.refl ae);obtain ⟨s2,ba,bU,cn,aT,gu⟩:=eL [.bool (decide (y<0)),e] 43 bk;obtain ⟨fB,cd,cP,dM,bp,k7⟩:=eL [.bool false,.af] 43 cn;have fk:=(bb.a1 aT (by simp)).a1 bp (by simp);have iv:=bU.a1 bp (by simp);have J:=gq x.natAbs;have U:=gq y.natAbs;have ff:=hh (aP:=false) (st:=false) (EE ai he D) (by show (a2 d && (a2 e && true))=true;rw[bV.a2 ai,bV.a2 he];rfl) dM.ag;simp (disch:=omega) only[cW,st,bg,gf,aC,ba,cd,du,fk.bM,iv.bM];have fin:∀(neg:Bool) (l:List Int) (v:V) (t:S),Loc s t->cl s t 3 1 v l.length (fp l)->fX fB t []->(∀b,b∈b4 v->fB.n<=b)->ea l->l.length<=1000000000->eA neg (a0 l)=x+y->
    ∃w t2 t3,et a9 (.fn 116 [] []) [.bool neg,v] t=some (w,t2,eM none t.n t.n (b4 v))∧e9 (some (cp.cc (.ptr s2.n 0))) (some (cp.cc (.ptr s2.n 0))) t2 (ef 2 (.ptr s2.n 0) w (aN t2))=some (.bad,t3,⟨⟨some [s2.n],some [s2.n],t2.n,t2.n⟩,[]⟩)∧
     (∃v,bN (x+y) v∧bB s t3 [bf 2 t3 (.ptr s2.n 0)]=some (v,s)):=by
   intro neg l v t b6 aE hk ad fF nb k4;obtain ⟨x',lZ,fO,h3⟩:=vM [.bool neg] [] aE (lR _ _) rfl rfl;obtain ⟨w,hw,t2,h0,hy,eo,tI,_⟩:=Xz b6 fO (λb Y=>(aE.lo Y).1) (rb neg h3 fF nb);rw[k4]at hw;obtain ⟨bK,rfl,eP⟩:=hw;have hi:=cP.hi;have iw:=(cP.a1 hk (by simp)).a1 eo (λaa=>by have:=ad _ aa;omega);obtain ⟨t3,jT,oM,nj,g2,wj⟩:=iw.qJ (r:=some (cp.cc (.ptr s2.n 0))) (w:=some (cp.cc (.ptr s2.n 0))) (z:=2) hy rfl rfl (j9 eP).2;exact ⟨_,t2,t3,h0,jT,_,⟨bK,rfl,eP⟩,Mj oM nj ae rfl (j9 eP).1⟩
  have DG:∀v:V,(∀b,b∈b4 v->fB.n<=b)-> ∀c,c∈ [s2.n]->c∉b4 v:=λv ad c aa CK=>by
   have:=ad c CK;simp only[iu]at aa;omega
  have ahf:ep d=true∧ep e=true:=⟨dz.ep ai,dz.ep he⟩;have plus:∀neg:Bool,eA neg ((x.natAbs:Int)+y.natAbs)=x+y-> ∃v t hi l,et a9 (.fn 117 [] []) [d,e] fB=some (v,t,eM none fB.n hi [])∧Loc s t∧cl s t 3 1 v l.length (fp l)∧fX fB t []∧(∀b,b∈b4 v->fB.n<=b)∧ea l∧l.length<=1000000000∧eA neg (a0 l)=x+y:=by
   intro neg k4;obtain ⟨l,⟨e1,ei,fG⟩,v,t,hi,h0,ho,hy,eo,iw⟩:=JJ dM (by simp[ahf]) (ah9 ai he (gK _) (gK _) D D);exact ⟨v,t,hi,l,h0,hy,ho,eo,iw,e1,D,by rw[ei,J,U];exact k4⟩
  have minus:∀(neg:Bool) (m n:Nat) (f g:V),bV .i64 f (aL m)->bV .i64 g (aL n)->(aL m).length<=100000000->(aL n).length<=100000000->n<=m->eA neg ((m:Int) - n)=x+y-> ∃v t hi l,et a9 (.fn 119 [] []) [f,g] fB=some (v,t,eM none fB.n hi [])∧Loc s t∧cl s t 3 1 v l.length (fp l)∧fX fB t []∧(∀b,b∈b4 v->fB.n<=b)∧ea l∧l.length<=1000000000∧eA neg (a0 l)=x+y:=by
   intro neg m n f g aM au hm a5 hle k4;obtain ⟨l,⟨e1,ei,fG⟩,v,t,hi,h0,ho,hy,eo,iw⟩:=JJ dM (by simp[dz.ep aM,dz.ep au]) (ON aM au (gK _) (gK _) D D (by rw[gq,gq];omega));exact ⟨v,t,hi,l,h0,hy,ho,eo,iw,e1,D,by rw[ei,gq,gq];exact k4⟩
  have b6:x.natAbs<y.natAbs->e8 (x.natAbs:Int) (y.natAbs:Int)<0:=λh=>by unfold e8;rw[if_pos D];omega
  have Ag: ¬x.natAbs<y.natAbs-> ¬e8 (x.natAbs:Int) (y.natAbs:Int)<0:=λh=>by unfold e8;rw[if_neg D];split<;>omega
  generalize e8 (x.natAbs:Int) (y.natAbs:Int)=fU at*;by_cases hx:x<0<;>by_cases aI:y<0
  ·obtain ⟨v,t,hi,l,h0,hy,ho,eo,iw,e1,ei,fG⟩:=plus true (by unfold eA;simp;omega);obtain ⟨w,t2,t3,jT,me,p3⟩:=fin true l v t hy ho eo iw e1 ei fG;simp (disch:=omega) only[hx,aI,decide_true]at fk iv ⊢;simp (disch:=omega) only[cW,o3,st,e2,du,fk.bM,iv.bM,h0,jT,me];exact lb (pg (bO:=[_,_,_,_,_,_,_,_]) (b:=s2.n) 8 rfl aS (by repeat' first|exact trivial|apply iE.eY|apply iE.lL; ·exact DG v iw)) p3
  ·simp (disch:=omega) only[hx,aI,decide_true,decide_false]at fk iv ⊢;by_cases aa:x.natAbs<y.natAbs
   ·obtain ⟨v,t,hi,l,h0,hy,ho,eo,iw,e1,ei,fG⟩:=minus false _ _ _ _ he ai dK Z D (by unfold eA;simp;omega);obtain ⟨w,t2,t3,jT,me,p3⟩:=fin false l v t hy ho eo iw e1 ei fG;have aa:=b6 aa;simp (disch:=omega) only[cW,o3,st,bg,e2,du,fk.bM,iv.bM,ff,h0,jT,me];exact lb (pg (bO:=[_,_,_,_,_,_,_,_]) (b:=s2.n) 8 rfl aS (by repeat' first|exact trivial|apply iE.eY|apply iE.lL; ·exact DG v iw)) p3
   ·obtain ⟨v,t,hi,l,h0,hy,ho,eo,iw,e1,ei,fG⟩:=minus true _ _ _ _ ai he Z dK D (by unfold eA;simp;omega);obtain ⟨w,t2,t3,jT,me,p3⟩:=fin true l v t hy ho eo iw e1 ei fG;have aa:=Ag aa;simp (disch:=omega) only[cW,o3,st,bg,e2,du,fk.bM,iv.bM,ff,h0,jT,me];exact lb (pg (bO:=[_,_,_,_,_,_,_,_]) (b:=s2.n) 8 rfl aS (by repeat' first|exact trivial|apply iE.eY|apply iE.lL; ·exact DG v iw)) p3
  ·simp (disch:=omega) only[hx,aI,decide_true,decide_false]at fk iv ⊢;by_cases aa:x.natAbs<y.natAbs
   ·obtain ⟨v,t,hi,l,h0,hy,ho,eo,iw,e1,ei,fG⟩:=minus true _ _ _ _ he ai dK Z D (by unfold eA;simp;omega);obtain ⟨w,t2,t3,jT,me,p3⟩:=fin true l v t hy ho eo iw e1 ei fG;have aa:=b6 aa;simp (disch:=omega) only[cW,o3,st,bg,e2,du,fk.bM,iv.bM,ff,h0,jT,me];exact lb (pg (bO:=[_,_,_,_,_,_,_,_]) (b:=s2.n) 8 rfl aS (by repeat' first|exact trivial|apply iE.eY|apply iE.lL; ·exact DG v iw)) p3
   ·obtain ⟨v,t,hi,l,h0,hy,ho,eo,iw,e1,ei,fG⟩:=minus false _ _ _ _ ai he Z dK D (by unfold eA;simp;omega);obtain ⟨w,t2,t3,jT,me,p3⟩:=fin false l v t hy ho eo iw e1 ei fG;have aa:=Ag aa;simp (disch:=omega) only[cW,o3,st,bg,e2,du,fk.bM,iv.bM,ff,h0,jT,me];exact lb (pg (bO:=[_,_,_,_,_,_,_,_]) (b:=s2.n) 8 rfl aS (by repeat' first|exact trivial|apply iE.eY|apply iE.lL; ·exact DG v iw)) p3
  ·obtain ⟨v,t,hi,l,h0,hy,ho,eo,iw,e1,ei,fG⟩:=plus false (by unfold eA;simp;omega);obtain ⟨w,t2,t3,jT,me,p3⟩:=fin false l v t hy ho eo iw e1 ei fG;simp (disch:=omega) only[hx,aI,decide_false]at fk iv ⊢;simp (disch:=omega) only[cW,o3,st,e2,du,fk.bM,iv.bM,h0,jT,me];exact lb (pg (bO:=[_,_,_,_,_,_,_,_]) (b:=s2.n) 8 rfl aS (by repeat' first|exact trivial|apply iE.eY|apply iE.lL; ·exact DG v iw)) p3) D
theorem Gs{a b:Int}(av:0<=a∧a<1000000000)(Y:0<=b∧b<1000000000):0<=a*b∧a*b<=999999998000000001:=by
 refine ⟨wQ av.1 Y.1,?_⟩;have J:a*b<=999999999*b:=x8 D Y.1;omega
theorem adq(x y:Int):eA (decide (decide (x<0)≠decide (y<0))) ((x.natAbs:Int)*y.natAbs)=x*y:=by
 unfold eA;by_cases hx:x<0<;>by_cases aI:y<0<;>simp only[hx,aI,decide_true,decide_false,ne_eq,not_true,not_false_iff,vj,Bool.true_eq_false, ↓reduceIte];rw[show (x.natAbs:Int)= -x by omega,show (y.natAbs:Int)= -y by omega,Int.neg_mul_neg];rw[show (x.natAbs:Int)= -x by omega,show (y.natAbs:Int)=y by omega,zx,Int.neg_neg];rw[show (x.natAbs:Int)=x by omega,show (y.natAbs:Int)= -y by omega,Int.mul_neg,Int.neg_neg];rw[show (x.natAbs:Int)=x by omega,show (y.natAbs:Int)=y by omega]
theorem qz(l:List Int)(i j:Nat)(x:Int)(h:i≠j):(l.set i x).getD j 0=l.getD j 0:=by
 simp[ir,Bo,h]
theorem q4(o:List Int)(j:Nat)(x:Int):fp (o.set j x)=(fp o).set j (.int .i64 x):=List.map_set
theorem BE(n:Nat):fp (List.replicate n 0)=List.replicate n (.int .i64 0):=List.map_replicate
theorem w9{x y:Int}{a b:V}(av:bN x a)(Y:bN y b)(Z:(aL x.natAbs).length<=100000000)(dK:(aL y.natAbs).length<=100000000):h6 a9 68 [a,b] (bN (x*y)):=λs ae=>
 (VR (cv aS)).kQ ((aL x.natAbs).length+(aL y.natAbs).length+1) (by
  obtain ⟨d,rfl,ai⟩:=av;obtain ⟨e,rfl,he⟩:=Y;show eE s _ (I0 a9 _ (.agg [.bool (decide (x<0)),d]) (.agg [.bool (decide (y<0)),e]) s);unfold I0;simp only[cw];generalize eO:(aL x.natAbs).length+(aL y.natAbs).length+1=F;obtain ⟨s1,aC,bb,bk,aB,ed⟩:=eL [.bool (decide (x<0)),d] 43 (Loc.refl ae);obtain ⟨s2,ba,bU,cn,aT,gu⟩:=eL [.bool (decide (y<0)),e] 43 bk;obtain ⟨fB,cd,cP,dM,bp,k7⟩:=eL [.bool false,.af] 43 cn;have fk:=(bb.a1 aT (by simp)).a1 bp (by simp);have iv:=bU.a1 bp (by simp);have aay:=MM x;have aaz:=MM y;have kz:=gK x.natAbs;have jv:=gK y.natAbs;have g8:bV .i64 d (aL x.natAbs):=ai;generalize gW:aL x.natAbs=A at ai aay kz Z eO;generalize fE:aL y.natAbs=B at he aaz jv dK eO;obtain ⟨out,hF,ff,gH,eU,eh,vB⟩:=Gp (T:=types) (t:=22) (ti:=zl) (te:=g3) (x:=.int .i64 0) (n:=(A.length:Int)+B.length) dM rfl rfl rfl rfl rfl D (by rw[show g3.bytes=8 from rfl];omega) D;simp (disch:=omega) only[cW,st,bg,gf,aC,ba,cd,du,fk.bM,iv.bM,ai.len,he.len,bT,ff];have aho:=fk.a1 eh (by simp);have ahw:=iv.a1 eh (by simp);have ahA:=cP.a1 eh (by simp);have auN:=cP.hi;have ml:=bU.hi;have gg:=bb.hi;have Sa:cl s hF 3 1 out (A.length+B.length) (fp (List.replicate (A.length+B.length) 0)):=by
   rw[show ((A.length:Int)+B.length).toNat=A.length+B.length by omega]at gH
   rwa [BE]
  refine jO (eE s _) (λk vs t=> ∃(o:List Int) (i:Nat),vs=[.int .i64 i,.ptr s.n 0,.ptr s1.n 0,out,.ptr s2.n 0]∧Loc s t∧cl s t 3 1 out (A.length+B.length) (fp o)∧
   dN s t s.n [.bool (decide (x<0)),d] 43 false∧dN s t s1.n [.bool (decide (y<0)),e] 43 false∧dN s t s2.n [.bool false,.af] 43 false∧
   ea o∧o.length=A.length+B.length∧a0 o=a0 (A.take i)*a0 B∧(∀j,i+B.length<=j->o.getD j 0=0)∧i+k=A.length) ?_ _ A.length _ _
   ⟨_,0,rfl,eU,Sa,aho,ahw,ahA,EP _,vo,by rw[Tr,sP];simp[a0],λj _=>by simp[ir,M3];split<;>rfl,D⟩ D
  rintro a3 k _ t ⟨o,i,rfl,b6,aE,cL,cS,ds,n8,kJ,ad,aY,na⟩ cR;by_cases hi:i<A.length;simp (disch:=omega) only[cW,st,bg,du,cL.bM,ai.len];have nL:=jt kz i;refine jO (eE s _) (λm vs t=> ∃(o:List Int) (k:Nat) (c:Int),vs=[.int .i64 k,.int .i64 c,.int .i64 i,.ptr s.n 0,.ptr s1.n 0,out,.ptr s2.n 0]∧Loc s t∧cl s t 3 1 out (A.length+B.length) (fp o)∧
   dN s t s.n [.bool (decide (x<0)),d] 43 false∧dN s t s1.n [.bool (decide (y<0)),e] 43 false∧dN s t s2.n [.bool false,.af] 43 false∧
   ea o∧o.length=A.length+B.length∧0<=c∧c<1000000000∧a0 o+ck (i+k)*c=a0 (A.take i)*a0 B+ck i*(A.getD i 0*a0 (B.take k))∧(∀j,i+B.length<=j->o.getD j 0=0)∧k+m=B.length) ?_ _ B.length _ _
   ⟨o,0,0,rfl,b6,aE,cL,cS,ds,n8,kJ,vn _,aS,by rw[sP,show a0 []=0 from rfl,nZ,nZ,nZ,q0,q0];exact ad,aY,gD _⟩ D
  clear b6 aE cL cS ds n8 kJ ad aY t;rintro xE m _ t ⟨o,k',c,rfl,b6,aE,cL,cS,ds,n8,kJ,uF,hB,ad,aY,auD⟩ lO;by_cases hk:k'<B.length;have xq:=jt jv k';have auX:=jt n8 (i+k');have auM:=Gs nL xq;obtain ⟨p,nN,tr⟩:=aE.at .i64 (i:=(i:Int)+k') D D;rw[show ((i:Int)+k').toNat=i+k' by omega,C4 _ D]at tr;obtain ⟨dA,t1,Ap,h0,ho,hy,eo⟩:=aE.put b6 .i64 (i:=(i:Int)+k') D D (x:=.int .i64 ((o.getD (i+k') 0+A.getD i 0*B.getD k' 0+c) % 1000000000)) rfl;have FR:dA=p:=Option.some.inj (Ap.symm.trans nN);subst FR;generalize lr:A.getD i 0*B.getD k' 0=BU at*;simp (disch:=omega) only[cW,st,bg,du,cL.bM,cS.bM,he.len,bT,nN,tr,ai.c1,he.c1,hb,dZ,lr,h0];have ey:∀c,c∈b4 out->fB.n<=c:=vB;refine lO (m - 1) _ _ D ⟨o.set (i+k') ((o.getD (i+k') 0+BU+c) % 1000000000),k'+1,(o.getD (i+k') 0+BU+c) / 1000000000,rfl,hy,?_,cL.a1 eo (λh=>by have:=ey _ h;omega),cS.a1 eo (λh=>by have:=ey _ h;omega),ds.a1 eo (λh=>by have:=ey _ h;omega),xd n8 _ D,by simpa using kJ,D,D,?_,λj aG=>?_,D⟩;rw[show ((i:Int)+k').toNat=i+k' by omega]at ho
  rwa [q4]
  rw[rX _ _ _ D,qT,<-pL,sb];have aj:=carry (o.getD (i+k') 0+BU+c) (ck (i+k'));have aH:=ym i k';rw[qZ (A.getD i 0),<-wR (A.getD i 0),oA (A.getD i 0) (ck k'),wR (ck k'),lr,qZ (ck i),<-wR (ck i) (ck k'),<-aH,Int.mul_sub];rw[qZ,qZ]at aj;omega;rw[qz _ _ _ _ D];exact aY j aG;have amu:k'=B.length:=D;subst amu;obtain ⟨p,t1,Ap,h0,ho,hy,eo⟩:=aE.put b6 .i64 (i:=(i:Int)+B.length) D D (x:=.int .i64 c) rfl;simp (disch:=omega) only[cW,st,bg,du,cS.bM,he.len,bT,Ap,h0];have ey:∀c,c∈b4 out->fB.n<=c:=vB;refine cR (k - 1) _ _ D ⟨o.set (i+B.length) c,i+1,rfl,hy,?_,cL.a1 eo (λh=>by have:=ey _ h;omega),cS.a1 eo (λh=>by have:=ey _ h;omega),ds.a1 eo (λh=>by have:=ey _ h;omega),xd n8 _ ⟨uF,hB⟩,by simpa using kJ,?_,λj aG=>?_,D⟩;rw[show ((i:Int)+B.length).toNat=i+B.length by omega]at ho
  rwa [q4]
  rw[rX _ _ _ D,aY _ (cg _),qT,Int.sub_zero,ad,oB]
  grind
  rw[qz _ _ _ _ D];exact aY j D;have amp:i=A.length:=D;subst amp;rw[oB,aay,aaz]at ad;simp (disch:=omega) only[cW,st,bg,du,cL.bM,cS.bM,ai.len,Gw];have jL:cl s t 3 1 out o.length (fp o):=by rw[kJ];exact aE
  obtain ⟨x',lZ,fO,h3⟩:=vM [.bool (decide (decide (x<0)≠decide (y<0)))] [] jL (lR _ _) rfl rfl;obtain ⟨w,hw,t2,h0,hy,eo,tI,_⟩:=Ca (aP:=false) (st:=true) b6 fO (λb Y=>(jL.lo Y).1) (λ_ h=>by cases h) (rb (decide (decide (x<0)≠decide (y<0))) h3 n8 D);simp only[sQ,hp]at h0;rw[ad,adq]at hw;obtain ⟨bK,rfl,eP⟩:=hw;have GH:=ds.a1 eo (λh=>by have:=vB _ h;omega);simp (disch:=omega) only[cW,st,h0];exact ⟨_,⟨bK,rfl,eP⟩,qO GH hy ae rfl rfl (j9 eP).1⟩) D
end Go.ah.X
