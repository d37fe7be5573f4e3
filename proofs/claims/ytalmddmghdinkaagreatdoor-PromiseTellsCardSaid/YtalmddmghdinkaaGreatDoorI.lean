/-
  A part: lemmas; conditions: those that each names.
-/
import Derived.Test.YtalmddmghdinkaaGreatDoorH
set_option linter.all false
set_option linter.deprecated false
noncomputable section
namespace Go.ah.X
open Go
section
variable {aq:Nat}{T:Types}{B:Nat}{P:Program}{G:aJ Func}{K:Nat->Bool}
abbrev xO:ah.bo:=λ_ _ _=>none
abbrev Dj:bo:=λ_=>none
theorem apx:Ej aq T B P xO:=λ_ _ _ _ _ h=>by cases h
theorem LY:zE xO:=λ_ _ _ _ _ h=>by cases h
theorem apy:Jg aq Dj xO:=⟨λ_ _ _ _=>rfl,λ_ _ h=>by cases h⟩
def Ot(aq:Nat)(G:aJ Func)(T:Types)(O:bo):Prop:= ∀f g,O f=some g-> ∀args v (s:S),g args s=some v-> ∀(κ:b8) (ak:Nat->Prop) args' (s':b9),s.n<=s.ag->dP aq κ ak s s'->c2 ak s'.h κ args args'->s'.n<=s'.ag->
 ∃n bR cx w bA,ah.go xO G T n (.call f args' s')=some (.val w bA)∧Ext κ ak s s' bR cx s bA∧dP aq bR cx s bA∧R cx bA.h bR v w
open Classical in
noncomputable def star(O:bo)(G:aJ Func)(T:Types):ah.bo:=λf args s=>
 match O f with
 |none=>none
 |some _=>if h:∃r:Value×b9,∃n,ah.go xO G T n (.call f args s)=some (.val r.1 r.2) then some h.choose else none
theorem adH{O:bo}{f:Nat}{args:List Value}{s:b9}{r:Value×b9}(h:star O G T f args s=some r):∃n,ah.go xO G T n (.call f args s)=some (.val r.1 r.2):=by
 unfold star at h;split at h;cases h;split at h;rename_i hx;cases h;exact hx.choose_spec;cases h
theorem arK{O:bo}{f:Nat}{g:List V->S->Option V}(aM:O f=some g){args:List Value}{s:b9}{w:Value}{s':b9}{n:Nat}(h:ah.go xO G T n (.call f args s)=some (.val w s')):star O G T f args s=some (w,s'):=by
 unfold star;simp only[aM];have hx:∃r:Value×b9,∃n,ah.go xO G T n (.call f args s)=some (.val r.1 r.2):=⟨(w,s'),n,h⟩;rw[dif_pos hx];obtain ⟨m,hm⟩:=hx.choose_spec;have:=ah.PH h hm;simp only[ah.dG.val.injEq]at this;rw[cU];exact (Prod.ext this.1 this.2).symm
theorem arL{O:bo}(fv:Ot aq G T O):Jg aq O (star O G T):=by
 refine ⟨λf aM a s=>by unfold star;simp only[aM],λf g aM args v s ad κ ak args' s' hw m av pv=>?_⟩;obtain ⟨n,bR,cx,w,bA,J,U,aj,aH⟩:=fv f g aM args v s ad κ ak args' s' hw m av (pv hw);exact ⟨bR,cx,w,bA,arK aM J,U,aj,aH⟩
theorem adG{O:bo} :zE (star O G T):=by
 intro f args s v s' h;obtain ⟨n,a5⟩:=adH h;exact Fg T G LY n _ _ a5
theorem arM{O:bo}(hm:P.follows .mixedOrders=true)(cA:iF P T)(jI:yf aq P G):Ej aq T B P (star O G T):=by
 intro f args s v s' h ι w args' iM au av;obtain ⟨n,a5⟩:=adH h;exact OV hm cA jI apx LY a5 iM au av
theorem XL(jI:yf aq P G):Ef aq G:=λf fn c aM aa=>(jI f fn aM).2.2 c aa
theorem aes{O:bo}(hm:P.follows .mixedOrders=true)(cA:iF P T)(jI:yf aq P G)(fv:Ot aq G T O){n:Nat}{f:Nat}{args:List V}{s:S}{v:V}{aK:S}
  (h:go K O G T n (.call f args s)=some (.val v aK)) {κ:b8} {ak:Nat->Prop} {st:b9} {ML:List Value} (At:dP aq κ ak s st) (ad:c2 ak st.h κ args ML) (hw:s.n<=s.ag->st.n<=st.ag)
  {ι:bF} {w:World} {args':Array Value} (iM:fZ aq T ι (Full ι) B st w) (au:pR aq ι) (av:dJ ι ML args'.toList):
  ∃bR cx u G2,R cx G2.h bR v u∧zA P f∧CallsIn Fence.wide 0 P f args' w (sS aq T B ι st w u G2):=by
 obtain ⟨my,iD,bR,cx,u,G2,e,J,U,aj,aH⟩:=(OE (arL fv) adG (XL jI) n).2.2.1 f args s _ h κ ak ML st At ad hw;cases e;exact ⟨bR,cx,u,G2,aH,OV hm cA jI (arM hm cA jI) adG J iM au av⟩
theorem ao1(jI:Ef aq G){f n:Nat}{args:List V}{ao bc:S}{v:V}(hP:go K Dj G T n (.call f args ao)=some (.val v bc))(p7:ao.n<=bc.ag)(uW:ao.n<=ao.ag)
  {κ wM:b8} {ak:Nat->Prop} {s:S} {s':b9} {args':List Value} (m:dP aq κ ak s s') (hQ:dP aq wM ak ao s') (av:c2 ak s'.h wM args args') (hw:s'.n<=s'.ag):
  ∃w bA,ah.go xO G T n (.call f args' s')=some (.val w bA)∧Ext κ ak s s' κ ak s bA∧dP aq κ ak s bA∧ ∃mz mI,R mI bA.h mz v w:=by
 obtain ⟨my,aK,mz,mI,w,bA,e,J,U,aj,aH⟩:=(OE (K:=K) apy LY jI n).2.2.1 f args ao _ hP wM ak args' s' hQ av (λ_=>hw);cases e;have v7:s'.n<=bA.ag:=U.DR ao.n s'.n (λb c Y hle=>U.new b c hle Y) p7 hw;have aM:=Fg T G LY n _ _ J;have od:∀c,c<s'.n->bA.h.get c=s'.h.get c:=λc aa=>(aM.k5 c aa).resolve_right (by rintro ⟨_,h⟩;have:=v7;simp only[sI]at h;omega);have aY:∀c,ak c->bA.h.get c=s'.h.get c:=λc aa=>od c (m.vh c aa);have Rm:=m.ag;have ml:=aj.ag.2;refine ⟨w,bA,J,⟨cg _,U.sD,λ_ _=>rfl,λb c bD cF=>by have:=m.lt b c cF;omega,λ_ h=>h,aY,λ_ h=>.inl h,cg _,λhH sd _ _ dV=>D⟩,
  ⟨λb o c Y hk=>?_,λb c hk=>?_,m.inj,m.sep,λc aa=>?_,⟨m.ag.1,ml⟩,m.pk,m.gl⟩,mz,mI,aH⟩
 obtain ⟨o',bD,cF⟩:=m.obj b o c Y hk;exact ⟨o',by rw[od c (m.lt b c hk).2];exact bD,cF.mono (λ_ h=>h) aY (b8.le_refl _)⟩;have:=m.lt b c hk;have:=U.sD;exact ⟨D,D⟩;have:=m.vh c aa;have:=U.sD;omega
end
section
section
variable (O:bo)(G:aJ Func)(T:Types)
def dT(f:Nat):Bool:=[31,32,35,36,37,38,71,73,75,79,84].any (Nat.beq f)
def rR(o:Bool)(s aK:S)(v:V):V×S:=match o with
 |true=>(v,aK)
 |false=>packed s aK v
abbrev run(n:Nat):Rec:=go dT O G T n
def W(t:Task)(Q:dG->Prop):Prop:= ∃n r,run O G T n t=some r∧Q r
def C(c:Code)(ro:Option Nat)(fr:F)(N:F->Prop)(cB:Nat->F->Prop)(R:F->Prop):Prop:=
 W O G T (.code c ro fr) λr=>match r with
  |.code .normal f=>N f
  |.code (.exit id) f=>cB id f
  |.code .ret f=>R f
  |.val _ _=>False
def oG(ops:Array Oper)(aP:Bool)(bO:List ct)(l:List Oper)(fr:F)(N:F->Prop):Prop:=
 W O G T (.run ops aP bO l fr) λr=>match r with
  |.code .normal f=>N f
  |_=>False
def n0(f:Nat)(args:List V)(s:S)(Q:V->S->Prop):Prop:=
 W O G T (.call f args s) λr=>match r with
  |.val v s=>Q v s
  |_=>False
end
variable {O:bo}{G:aJ Func}{T:Types}
theorem zh{n m:Nat}(h:n<=m):mG (run O G T n) (run O G T m):=Cu h
theorem W.mono{t:Task}{Q yi:dG->Prop}(h:W O G T t Q)(a7:∀r,Q r->yi r):W O G T t yi:=let ⟨n,r,J,U⟩:=h;⟨n,r,J,a7 r U⟩
theorem C.mono{c:Code}{ro:Option Nat}{fr:F}{N Wp:F->Prop}{cB Ut:Nat->F->Prop}{R uf:F->Prop}(h:C O G T c ro fr N cB R)(a5:∀f,N f->Wp f)(he:∀i f,cB i f->Ut i f)(E:∀f,R f->uf f):C O G T c ro fr Wp Ut uf:=
 W.mono h λr a7=>by
  split at a7;exact a5 _ a7;exact he _ _ a7;exact E _ a7;exact a7
theorem n0.mono{f:Nat}{args:List V}{s:S}{Q yi:V->S->Prop}(h:n0 O G T f args s Q)(a7:∀v s,Q v s->yi v s):n0 O G T f args s yi:=
 W.mono h λr E=>by
  split at E;exact a7 _ _ E;exact E.elim
theorem BS{t:Task}{Q:dG->Prop}{n:Nat}{r:dG}(h:step dT O G T (run O G T n) t=some r)(a7:Q r):W O G T t Q:=⟨n+1,r,h,a7⟩
section code
variable {ro:Option Nat}{fr:F}{N:F->Prop}{cB:Nat->F->Prop}{R:F->Prop}
theorem afB(h:N fr):C O G T .skip ro fr N cB R:=BS (n:=0) (r:=.code .normal fr) rfl h
theorem afx{i}(h:N fr):C O G T (.label i) ro fr N cB R:=BS (n:=0) (r:=.code .normal fr) rfl h
theorem afy(h:R fr):C O G T .ret ro fr N cB R:=BS (n:=0) (r:=.code .ret fr) rfl h
theorem afw{i:Nat}(h:cB i fr):C O G T (.exit i) ro fr N cB R:=BS (n:=0) (r:=.code (.exit i) fr) rfl h
theorem afA{a b:Code}(h:C O G T a ro fr (λf=>C O G T b ro f N cB R) cB R):C O G T (.seq a b) ro fr N cB R:=by
 obtain ⟨n,r,J,U⟩:=h;have key:∀r',run O G T (n+1) (.code (.seq a b) ro fr)=some r'↔pG (run O G T n) ro fr a b=some r':=λ_=>Iff.rfl;split at U;rename_i f;obtain ⟨m,r',aj,aH⟩:=U;refine ⟨max n m+1,r',?_,aH⟩;show pG (run O G T (max n m)) ro fr a b=some r';unfold pG;rw[zh (Nat.le_max_left n m) _ _ J];exact zh (Nat.le_max_right n m) _ _ aj;rename_i i f;refine ⟨n+1,.code (.exit i) f,(key _).2 ?_,U⟩;unfold pG;rw[J];rename_i f;refine ⟨n+1,.code .ret f,(key _).2 ?_,U⟩;unfold pG;rw[J];exact U.elim
theorem afz{c:Code}(h:C O G T c ro fr N cB R):C O G T (.scope c) ro fr N cB R:=by
 obtain ⟨n,r,J,U⟩:=h;exact ⟨n+1,r,J,U⟩
theorem afv{id:Nat}{c:Code}(h:C O G T c ro fr N (λj f=>(j=id->N f)∧(j≠id->cB j f)) R):C O G T (.block id c) ro fr N cB R:=by
 obtain ⟨n,r,J,U⟩:=h;have key:∀r',run O G T (n+1) (.code (.block id c) ro fr)=some r'↔qj (run O G T n) ro fr id c=some r':=λ_=>Iff.rfl;split at U;rename_i f;refine ⟨n+1,.code .normal f,(key _).2 ?_,U⟩;unfold qj;rw[J];rename_i j f;by_cases aG:j=id;refine ⟨n+1,.code .normal f,(key _).2 ?_,U.1 aG⟩;unfold qj;rw[J];subst aG;simp;refine ⟨n+1,.code (.exit j) f,(key _).2 ?_,U.2 aG⟩;unfold qj;rw[J];have:Nat.beq j id=false:=by
  cases Y:Nat.beq j id with
  |false=>rfl
  |true=>exact absurd (kj Y) aG
 simp only[this];rename_i f;refine ⟨n+1,.code .ret f,(key _).2 ?_,U⟩;unfold qj;rw[J];exact U.elim
theorem Ur{c:Operand}{a b:Code}{p:Bool}(aa:bl fr.e c=.bool p)(aO:p=true->C O G T a ro fr N cB R)(aM:p=false->C O G T b ro fr N cB R):C O G T (.cond c a b) ro fr N cB R:=by
 cases p with
 |true=>
  obtain ⟨n,r,J,U⟩:=aO rfl;refine ⟨n+1,r,?_,U⟩;show qk (run O G T n) ro fr c a b=some r;unfold qk;rw[aa];exact J
 |false=>
  obtain ⟨n,r,J,U⟩:=aM rfl;refine ⟨n+1,r,?_,U⟩;show qk (run O G T n) ro fr c a b=some r;unfold qk;rw[aa];exact J
theorem afC{c:Code}(h:C O G T c ro fr (λf=>C O G T (.loop c) ro f N cB R) cB R):C O G T (.loop c) ro fr N cB R:=by
 obtain ⟨n,r,J,U⟩:=h;have key:∀r',run O G T (n+1) (.code (.loop c) ro fr)=some r'↔o4 (run O G T n) ro fr c=some r':=λ_=>Iff.rfl;split at U;rename_i f;obtain ⟨m,r',aj,aH⟩:=U;refine ⟨max n m+1,r',?_,aH⟩;show o4 (run O G T (max n m)) ro fr c=some r';unfold o4;rw[zh (Nat.le_max_left n m) _ _ J];exact zh (Nat.le_max_right n m) _ _ aj;rename_i i f;refine ⟨n+1,.code (.exit i) f,(key _).2 ?_,U⟩;unfold o4;rw[J];rename_i f;refine ⟨n+1,.code .ret f,(key _).2 ?_,U⟩;unfold o4;rw[J];exact U.elim
theorem Us{i:Nat}{ops:Array Oper}{aP:Bool}(h:oG O G T ops aP [] ops.toList fr N):C O G T (.region i ops aP) ro fr N cB R:=by
 obtain ⟨n,r,J,U⟩:=h;refine ⟨n+1,r,J,?_⟩;split at U;exact U;exact U.elim
end code
section ops
variable {ops:Array Oper}{aP:Bool}{bO:List ct}{l:List Oper}{N:F->Prop}{e:aJ V}{bG:Nat}{s:S}{ms:List Nat}{fr:F}
theorem ag7(h:N fr):oG O G T ops false bO [] fr N:=BS (n:=0) (r:=.code .normal fr) rfl h
theorem Wx(ai:yr ops bO.reverse=true)(h:N fr):oG O G T ops true bO [] fr N:=by
 refine BS (n:=0) (r:=.code .normal fr) ?_ h;show j4 dT T (run O G T 0) ops true bO [] fr=_;unfold j4;simp only[ai]
def mv(T:Types)(e:aJ V)(s:S)(o:Op):Option (jr×S):=evalOp T (bl e) { s with ag:=s.n } o
def lD(e:aJ V)(d:Option Nat)(v:V):aJ V:=match d with
 |none=>e
 |some d=>e.set d v
def vH(d:Option Nat)(bG:Nat):Bool:=match d with
 |none=>true
 |some d=>Nat.blt d bG
theorem Sr{d:Option Nat}(ai:vH d bG=true)(v:V)(aK:S):put ⟨e,bG,s,ms⟩ d v aK=some ⟨lD e d v,bG,aK,ms⟩:=by
 unfold put;cases d with
 |none=>rfl
 |some d=>simp only[vH]at ai;simp only[ai,lD]
theorem Jl{o:Oper}(hw:jQ ops e o=some true){v:V}{aK:S}(he:mv T e s o.op=some (.val v,aK))(ai:vH o.dst bG=true)
  (h:oG O G T ops aP (ll aP ⟨⟨cp (bl e) o.op,writes (bl e) o.op (Nat.blt aK.ag s.n),s.n,aK.n⟩,[]⟩ bO) l ⟨lD e o.dst v,bG, { aK with ag:=min s.ag aK.ag },ms⟩ N):
  oG O G T ops aP bO (o::l) ⟨e,bG,s,ms⟩ N:=by
 obtain ⟨n,r,J,U⟩:=h;refine ⟨n+1,r,?_,U⟩;show j4 dT T (run O G T n) ops aP bO (o::l) ⟨e,bG,s,ms⟩=some r;unfold j4;simp only[hw];unfold la;unfold mv at he;simp only[he];unfold done;rw[Sr ai];exact J
theorem Wy{o:Oper}(hw:jQ ops e o=some false)(ai:vH o.dst bG=true)
  (h:oG O G T ops aP (ll aP ⟨⟨some [],some [],s.n,s.n⟩,[]⟩ bO) l ⟨lD e o.dst (.da []),bG, { s with ag:=min s.ag s.ag },ms⟩ N):
  oG O G T ops aP bO (o::l) ⟨e,bG,s,ms⟩ N:=by
 obtain ⟨n,r,J,U⟩:=h;refine ⟨n+1,r,?_,U⟩;show j4 dT T (run O G T n) ops aP bO (o::l) ⟨e,bG,s,ms⟩=some r;unfold j4;simp only[hw];unfold done;rw[Sr ai];exact J
theorem Ww{o:Oper}(hw:jQ ops e o=some true){f:Nat}{args sa:List V}{bs:List Nat}{aK iD:S}(he:mv T e s o.op=some (.call f args,aK))(aY:kG dT f args aK=(sa,bs,iD))(ai:vH o.dst bG=true)
  (h:n0 O G T f sa iD λv kB=>oG O G T ops aP (ll aP ⟨⟨none,writes (bl e) o.op (Nat.blt kB.ag s.n),s.n,kB.n⟩,bs⟩ bO) l ⟨lD e o.dst v,bG, { kB with ag:=least bs (min s.ag kB.ag) },ms⟩ N):
  oG O G T ops aP bO (o::l) ⟨e,bG,s,ms⟩ N:=by
 obtain ⟨n,r,J,U⟩:=h;split at U;rename_i v kB;obtain ⟨m,r',aj,aH⟩:=U;refine ⟨max n m+1,r',?_,aH⟩;show j4 dT T (run O G T (max n m)) ops aP bO (o::l) ⟨e,bG,s,ms⟩=some r';unfold j4;simp only[hw];unfold la;unfold mv at he;simp only[he,aY,zh (Nat.le_max_left n m) _ _ J];unfold vG;rw[Sr ai];exact zh (Nat.le_max_right n m) _ _ aj;exact U.elim
theorem Nk{f:Nat}{fn:Func}{c:Code}{args:List V}{Q:V->S->Prop}(fv:O f=none)(aM:G.get f=some fn)(Y:fn.body=some c)(a5:Nat.ble args.length fn.ntmps=true)
  (h:C O G T c none ⟨aJ.ofList .leaf 0 args,fn.ntmps,s,[]⟩ (λfr=> ∃v aK,leave T fn fr=some (.val v aK)∧Q (rR (dT f) s aK v).1 (rR (dT f) s aK v).2) (λ_ _=>False)
   (λfr=> ∃v aK,leave T fn fr=some (.val v aK)∧Q (rR (dT f) s aK v).1 (rR (dT f) s aK v).2)):n0 O G T f args s Q:=by
 obtain ⟨n,r,J,U⟩:=h;have key:∀r',run O G T (n+1) (.call f args s)=some r'↔nt dT O G T (run O G T n) f args s=some r':=λ_=>Iff.rfl;have go:∀ {fK:F} {x:r7},(x=.normal∨x=.ret)->run O G T n (.code c none ⟨aJ.ofList .leaf 0 args,fn.ntmps,s,[]⟩)=some (.code x fK)->
   (∃v aK,leave T fn fK=some (.val v aK)∧Q (rR (dT f) s aK v).1 (rR (dT f) s aK v).2)->n0 O G T f args s Q:=by
  intro fK x hx J ⟨v,aK,aj,aH⟩;refine ⟨n+1,.val (rR (dT f) s aK v).1 (rR (dT f) s aK v).2,(key _).2 ?_,aH⟩;unfold nt;simp only[fv,aM,Y,a5,J];rcases hx with rfl|rfl
  simp only[aj];unfold AU rR;cases dT f<;>simp only[Dq];simp only[aj];unfold AU rR;cases dT f<;>simp only[Dq]
 split at U;exact go (.inl rfl) J U;exact U.elim;exact go (.inr rfl) J U;exact U.elim
end ops
end
inductive Out where
 |fin (bO:List ct) (fr:F)
 |call (bO:List ct) (f:Nat) (args:List V) (s:S) (o:Oper) (l:List Oper) (fr:F)
 |bad
def ajS(aP:Bool)(bO:List ct)(o:Oper)(fr:F)(v:V)(aK:S)(c:List ct->F->Out):Out:=
 match vH o.dst fr.bG with
 |true=>c (ll aP ⟨⟨cp (bl fr.e) o.op,writes (bl fr.e) o.op (Nat.blt aK.ag fr.s.n),fr.s.n,aK.n⟩,[]⟩ bO) ⟨lD fr.e o.dst v,fr.bG, { aK with ag:=min fr.s.ag aK.ag },fr.ms⟩
 |false=>.bad
def ex(T:Types)(ops:Array Oper)(aP:Bool):List ct->List Oper->F->Out
 |bO,[],fr=>.fin bO fr
 |bO,o::l,fr=>
  match jQ ops fr.e o with
  |none=>.bad
  |some false=>match vH o.dst fr.bG with
   |true=>ex T ops aP (ll aP ⟨⟨some [],some [],fr.s.n,fr.s.n⟩,[]⟩ bO) l ⟨lD fr.e o.dst (.da []),fr.bG, { fr.s with ag:=min fr.s.ag fr.s.ag },fr.ms⟩
   |false=>.bad
  |some true=>match mv T fr.e fr.s o.op with
   |some (.val v,aK)=>ajS aP bO o fr v aK λbO fr=>ex T ops aP bO l fr
   |some (.call f args,aK)=>.call bO f args aK o l fr
   |_=>.bad
theorem X7(e:aJ V)(d:Nat)(v:V)(t:Nat):bl (e.set d v) (.tmp t)=if t=d then v else bl e (.tmp t):=by
 simp only[bl,aJ.tc];by_cases h:t=d<;>simp[h]
theorem ajN(t:Nat):bl .leaf (.tmp t)=.bad:=by simp only[bl,aJ.tb]
def MR(ops:Array Oper)(ρ:Operand->V)(o:Oper):Option Bool:=
 match o.guard with
 |none=>some true
 |some (j,want)=>match (ops[j]?).bind (·.dst) with
  |none=>some false
  |some d=>match ρ (.tmp d) with
   |.bool b=>some (b == want)
   |.da []=>some false
   |_=>none
theorem aec(ops:Array Oper)(e:aJ V)(o:Oper):jQ ops e o=MR ops (bl e) o:=by
 unfold jQ MR;cases au:o.guard with
 |none=>rfl
 |some p=>
  obtain ⟨j,want⟩:=p;simp only[];cases ai:(ops[j]?).bind (·.dst) with
  |none=>rfl
  |some d=>
   simp only[bl];cases ai:e.get d with
   |none=>rfl
   |some v=>
    cases v<;>try rfl
    rename_i vs;cases vs<;>rfl
section
abbrev i64(n:Int):V:=.int .i64 n
abbrev u8(n:Int):V:=.int .u8 n
abbrev u64(n:Int):V:=.int .u64 n
variable {T:Types}
theorem ahG(k:IntKind)(t:Option cb)(a b:Int):bin .add t (.int k a) (.int k b)=some (.int k (k.wrap (a+b))):=by simp[bin,lift,ah.bin,qF,np,lV]
theorem ahR(k:IntKind)(t:Option cb)(a b:Int):bin .sub t (.int k a) (.int k b)=some (.int k (k.wrap (a - b))):=by simp[bin,lift,ah.bin,qF,np,lV]
theorem ahM(k:IntKind)(t:Option cb)(a b:Int):bin .mul t (.int k a) (.int k b)=some (.int k (k.wrap (a*b))):=by simp[bin,lift,ah.bin,qF,np,lV]
theorem ahO(k:IntKind)(t:Option cb)(a b:Int):bin .quo t (.int k a) (.int k b)=if b=0 then none else some (.int k (k.wrap (a.tdiv b))):=by
 by_cases h:b=0<;>simp[bin,lift,ah.bin,qF,np,lV,h]
theorem ahP(k:IntKind)(t:Option cb)(a b:Int):bin .rem t (.int k a) (.int k b)=if b=0 then none else some (.int k (a.tmod b)):=by
 by_cases h:b=0<;>simp[bin,lift,ah.bin,qF,np,lV,h]
theorem ahH(k:IntKind)(t:Option cb)(a b:Int):bin .eql t (.int k a) (.int k b)=some (.bool (a == b)):=by simp[bin,lift,ah.bin,qF,np,lV]
theorem ahN(k:IntKind)(t:Option cb)(a b:Int):bin .neq t (.int k a) (.int k b)=some (.bool (a != b)):=by simp[bin,lift,ah.bin,qF,np,lV]
theorem ahL(k:IntKind)(t:Option cb)(a b:Int):bin .lss t (.int k a) (.int k b)=some (.bool (decide (a<b))):=by simp[bin,lift,ah.bin,qF,np,lV]
theorem ahK(k:IntKind)(t:Option cb)(a b:Int):bin .leq t (.int k a) (.int k b)=some (.bool (decide (a<=b))):=by simp[bin,lift,ah.bin,qF,np,lV]
theorem ahJ(k:IntKind)(t:Option cb)(a b:Int):bin .gtr t (.int k a) (.int k b)=some (.bool (decide (a>b))):=by simp[bin,lift,ah.bin,qF,np,lV]
theorem ahI(k:IntKind)(t:Option cb)(a b:Int):bin .geq t (.int k a) (.int k b)=some (.bool (decide (a≥b))):=by simp[bin,lift,ah.bin,qF,np,lV]
theorem G7(k:IntKind)(a:Int):un .neg (.int k a)=some (.int k (k.wrap (0 - a))):=rfl
theorem nv(b:Bool):un .not (.bool b)=some (.bool (!b)):=rfl
theorem wrap64{n:Int}(J: -9223372036854775808<=n)(U:n<=9223372036854775807):IntKind.i64.wrap n=n:=by
 simp only[IntKind.wrap,IntKind.bits,IntKind.signed];simp;omega
def LP(T:Types)(rs:List ResultVar)(fr:F):Option (V×S):=
 match shut fr.ms fr.s with
 |none=>none
 |some s=>match lB T rs { fr with s:=s } with
  |some l=>some (pI l,s)
  |none=>none
def Ends(o:Bool)(T:Types)(rs:List ResultVar)(s:S)(Q:V->S->Prop)(fr:F):Prop:=
 match LP T rs fr with
 |some (v,aK)=>Q (rR o s aK v).1 (rR o s aK v).2
 |none=>False
theorem Ends.leave{o:Bool}{T:Types}{fn:Func}{s:S}{Q:V->S->Prop}{fr:F}(h:Ends o T fn.results.toList s Q fr):∃v aK,leave T fn fr=some (.val v aK)∧Q (rR o s aK v).1 (rR o s aK v).2:=by
 unfold Ends LP at h;unfold X.leave;split at h;rename_i v aK J;cases ae:shut fr.ms fr.s with
 |none=>rw[ae]at J;cases J
 |some bc=>
  rw[ae]at J;simp only[]at J ⊢;cases Z:lB T fn.results.toList { fr with s:=bc } with
  |none=>rw[Z]at J;cases J
  |some l=>
   rw[Z]at J;cases J;exact ⟨_,_,rfl,h⟩
 exact h.elim
theorem afD{O:bo}{G:aJ Func}{T:Types}{f:Nat}{fn:Func}{c:Code}{args:List V}{s:S}{Q:V->S->Prop}{bG:Nat}{rs:List ResultVar}(fv:O f=none)(aM:G.get f=some fn)(Y:fn.body=some c)(K6:fn.ntmps=bG)(jM:fn.results.toList=rs)
  (a5:Nat.ble args.length bG=true) (h:C O G T c none ⟨aJ.ofList .leaf 0 args,bG,s,[]⟩ (Ends (dT f) T rs s Q) (λ_ _=>False) (Ends (dT f) T rs s Q)):n0 O G T f args s Q:=by
 subst K6 jM;exact Nk fv aM Y a5 (h.mono (λ_ h=>h.leave) (λ_ _ h=>h) (λ_ h=>h.leave))
end
abbrev ax:=Option (V×S)
def rV{β:Type}(n:Nat)(c:Nat->β):β:=
 match n with
 |0=>c 0
 |n+1=>c (n+1)
theorem GZ{β:Type}(n:Nat)(c:Nat->β):rV n c=c n:=by cases n<;>rfl
def Mx{β:Type}(i:Int)(c:Int->β):β:=
 match i with
 |.ofNat n=>rV n λn=>c (.ofNat n)
 |.negSucc n=>rV n λn=>c (.negSucc n)
theorem arH{β:Type}(i:Int)(c:Int->β):Mx i c=c i:=by
 cases i with
 |ofNat n=>simp only[Mx,GZ]
 |negSucc n=>simp only[Mx,GZ]
def GX{β:Type}(v:V)(c:V->β):β:=
 match v with
 |.int k n=>Mx n λn=>c (.int k n)
 |.bool b=>match b with
  |true=>c (.bool true)
  |false=>c (.bool false)
 |.ptr b o=>rV b λb=>rV o λo=>c (.ptr b o)
 |.bx b o l k z=>rV b λb=>rV o λo=>rV l λl=>rV k λk=>rV z λz=>c (.bx b o l k z)
 |.fs cs l=>rV l λl=>c (.fs cs l)
 |v=>c v
theorem adB{β:Type}(v:V)(c:V->β):GX v c=c v:=by
 cases v<;>simp only[GX,GZ,arH];rename_i b;cases b<;>rfl
def GY{β:Type}(l:List V):(List V->β)->β:=
 List.rec (motive:=λ_=>(List V->β)->β) (λc=>c []) (λv _ a3 c=>GX v λv=>a3 λl=>c (v::l)) l
theorem adD{β:Type} :∀(l:List V) (c:List V->β),GY l c=c l
 |[],_=>rfl
 |v::l,c=>by
  show (GX v λv=>GY l λl=>c (v::l))=c (v::l);rw[adB,adD l]
def G0{β:Type}(v:V)(c:V->β):β:=
 match v with
 |.agg cs=>GY cs λcs=>c (.agg cs)
 |.da cs=>GY cs λcs=>c (.da cs)
 |.fs cs l=>GY cs λcs=>rV l λl=>c (.fs cs l)
 |v=>GX v c
theorem Mz{β:Type}(v:V)(c:V->β):G0 v c=c v:=by
 cases v<;>simp only[G0,adD,GZ,adB]
def adC{β:Type}(h:aJ Obj)(c:aJ Obj->β):β:=
 match h with
 |.leaf=>c .leaf
 |.node l v r=>c (.node l v r)
theorem arG{β:Type}(h:aJ Obj)(c:aJ Obj->β):adC h c=c h:=by cases h<;>rfl
def My{β:Type}(s:S)(c:S->β):β:=
 match s with
 |⟨h,n,ag⟩=>rV n λn=>rV ag λag=>adC h λh=>c ⟨h,n,ag⟩
theorem adE{β:Type}(s:S)(c:S->β):My s c=c s:=by
 obtain ⟨h,n,ag⟩:=s;simp only[My,GZ,arG]
def aF(o:Option V)(k:V->ax):ax:=
 match o with
 |some v=>G0 v k
 |none=>none
def bZ(o:Option (V×S))(k:V->S->ax):ax:=
 match o with
 |some (v,s)=>G0 v λv=>My s λs=>k v s
 |none=>none
theorem Ez(o:Option V)(k:V->ax):aF o k=(match o with
 |some v=>k v
 |none=>none):=by
 cases o with
 |none=>rfl
 |some v=>simp only[aF,Mz]
theorem B2(o:Option (V×S))(k:V->S->ax):bZ o k=(match o with
 |some (v,s)=>k v s
 |none=>none):=by
 cases o with
 |none=>rfl
 |some p=>
  obtain ⟨v,s⟩:=p;simp only[bZ,Mz,adE]
def aW(v:V)(a b:ax):ax:=
 match v with
 |.bool true=>a
 |.bool false=>b
 |_=>none
def ic(g:V)(want:Bool)(o:Option V):Option V:=
 match g with
 |.bool b=>match (b == want) with
  |true=>o
  |false=>some (.da [])
 |.da []=>some (.da [])
 |_=>none
def gJ(g:V)(want:Bool)(o:Option (V×S))(s:S):Option (V×S):=
 match g with
 |.bool b=>match (b == want) with
  |true=>o
  |false=>some (.da [],s)
 |.da []=>some (.da [],s)
 |_=>none
def di(c a b:V):Option V:=
 match c with
 |.bool true=>some a
 |.bool false=>some b
 |_=>none
abbrev bt:=Nat->List V->S->Option (V×S)
def qI(aP st:Bool)(bs:List Nat)(b:Bool):Bool:=
 match aP with
 |false=>true
 |true=>match st with
  |true=>b && bs.isEmpty
  |false=>b
def cJ(cz:bt)(aP st:Bool)(f:V)(args:List V)(s:S):Option (V×S):=
 match args.any en with
 |true=>none
 |false=>match f with
  |.fn g first cap=>match kG dT g (first++(args++cap)) { s with ag:=s.n } with
   |(args,bs,bc)=>match cz g args bc with
    |some (v,kB)=>match qI aP st bs (Nat.ble s.n kB.ag) with
     |true=>some (v, { kB with ag:=least bs (min s.ag kB.ag) })
     |false=>none
    |none=>none
  |_=>none
inductive agT where
 |alias (x:Operand)
 |pick (c a b:Operand)
 |pure
 |state
 |call (f:Operand) (args:List Operand)
 |bad
def kindOf(T:Types)(o:Op):agT:=
 match o with
 |.move x=>.alias x
 |.assign x=>.alias x
 |.pick c a b=>.pick c a b
 |.binOp _ _ _ _ _=>.pure
 |.unOp _ _ _=>.pure
 |.load _ _=>.pure
 |.fieldAddr _ _ _=>.pure
 |.field _ _ _=>.pure
 |.indexAddr _ _ _=>.pure
 |.index _ _ _=>.pure
 |.slice _ _ _ _ _=>.pure
 |.build _ _=>.pure
 |.lookup _ _ _ _=>.pure
 |.extract _ _=>.pure
 |.nilCheck _=>.pure
 |.makeFunc _ _ _=>.pure
 |.convert _ b _=>match T.get b with
  |some { kind:=.int _, .. } =>.pure
  |_=>.state
 |.alloc _=>.state
 |.box _ _=>.state
 |.buildSlice _ _ _=>.state
 |.store _ _ _=>.state
 |.makeSlice _ _ _=>.state
 |.makeMap _ _=>.state
 |.mapUpdate _ _ _ _=>.state
 |.call c=>match c.callee with
  |.builtin .len=>.pure
  |.builtin .cap=>.pure
  |.builtin .max=>.pure
  |.builtin .min=>.pure
  |.builtin _=>.state
  |.value f=>.call f c.args.toList
  |.invoke _ _=>.bad
 |_=>.bad
def BW(ρ:Operand->V)(o:Op):Bool:=
 match o with
 |.makeFunc _ a b=>(a.toList.map ρ).any en || (b.toList.map ρ).any en
 |_=>false
def x1(T:Types)(ρ:Operand->V)(s:S)(o:Op):Option V:=
 match BW ρ o with
 |true=>none
 |false=>match evalOp T ρ { s with ag:=s.n } o with
  |some (.val v,_)=>some v
  |_=>none
def MA(T:Types)(ρ:Operand->V)(s:S)(o:Op):Option (V×S):=
 match evalOp T ρ { s with ag:=s.n } o with
 |some (.val v,t)=>some (v, { t with ag:=min s.ag t.ag })
 |_=>none
def nQ(f:IntKind->Int->Int->Option V)(x y:V):Option V:=
 match x with
 |.int k a=>match y with
  |.int k' b=>match (k == k':Bool) with
   |true=>f k a b
   |false=>none
  |_=>none
 |_=>none
def vK(t:Option cb)(n:Bool)(x y:V):Option V:=
 match x with
 |.int k a=>match y with
  |.int k' b=>match (k == k':Bool) with
   |true=>some (.bool (match zW a b with
    |true=>n
    |false=> !n))
   |false=>none
  |_=>none
 |_=>match n with
  |true=>bin .eql t x y
  |false=>bin .neq t x y
def bH(op:BinOp)(t:Option cb)(x y:V):Option V:=
 match op with
 |.add=>nQ (λk a b=>some (.int k (tU k (a+b)))) x y
 |.sub=>nQ (λk a b=>some (.int k (tU k (a - b)))) x y
 |.mul=>nQ (λk a b=>some (.int k (tU k (a*b)))) x y
 |.quo=>nQ (λk a b=>match zW b (.ofNat 0) with
  |true=>none
  |false=>some (.int k (tU k (a.tdiv b)))) x y
 |.rem=>nQ (λk a b=>match zW b (.ofNat 0) with
  |true=>none
  |false=>some (.int k (a.tmod b))) x y
 |.lss=>nQ (λ_ a b=>some (.bool (LR a b))) x y
 |.leq=>nQ (λ_ a b=>some (.bool (LN a b))) x y
 |.gtr=>nQ (λ_ a b=>some (.bool (LR b a))) x y
 |.geq=>nQ (λ_ a b=>some (.bool (LN b a))) x y
 |.eql=>vK t true x y
 |.neq=>vK t false x y
 |op=>bin op t x y
def cZ(s:S)(p:V):Option V:=
 match rd s p 1 with
 |some (v::_)=>some v
 |_=>none
def bf(n:Nat)(s:S)(p:V):Option V:=
 match rd s p n with
 |some l=>some (.agg l)
 |none=>none
def a6(off:Nat)(x:V):Option V:=
 match x with
 |.ptr b o=>some (.ptr b (o+off))
 |.fu cs=>uA off cs
 |_=>none
def Sh(off:Nat)(cs:List V):Option V:=
 match cs.drop off with
 |v::_=>some v
 |[]=>none
def Sg(off n:Nat)(cs:List V):Option V:=
 match Nat.ble (off+n) cs.length with
 |true=>some (.agg ((cs.drop off).take n))
 |false=>none
def Yc(off:Nat)(x:V):Option V:=
 match x with
 |.agg cs=>Sh off cs
 |_=>none
def Yb(off n:Nat)(x:V):Option V:=
 match x with
 |.agg cs=>Sg off n cs
 |_=>none
def wb(i:Int)(n:Nat):Bool:=
 match i with
 |.ofNat k=>Nat.blt k n
 |.negSucc _=>false
def dW(z:Nat)(x i:V):Option V:=
 match i with
 |.int _ i=>match x with
  |.bx b o len _ _=>match wb i len with
   |true=>some (.ptr b (o+i.toNat*z))
   |false=>none
  |.fs cs len=>match wb i len with
   |true=>uA (i.toNat*z) cs
   |false=>none
  |_=>none
 |_=>none
def nR(n z:Nat)(x i:V):Option V:=
 match i with
 |.int _ i=>match wb i n with
  |true=>match x with
   |.ptr b o=>some (.ptr b (o+i.toNat*z))
   |.fu cs=>uA (i.toNat*z) cs
   |_=>none
  |false=>none
 |_=>none
def aaP(n z:Nat)(x i:V):Option V:=
 match i with
 |.int _ i=>match wb i n with
  |true=>match x with
   |.agg cs=>Sh (i.toNat*z) cs
   |_=>none
  |false=>none
 |_=>none
def C5(n z:Nat)(x i:V):Option V:=
 match i with
 |.int _ i=>match wb i n with
  |true=>match x with
   |.agg cs=>Sg (i.toNat*z) z cs
   |_=>none
  |false=>none
 |_=>none
def bW:List V->List (Nat×Nat×V)->Option V
 |cs,[]=>some (.agg cs)
 |cs,(off,size,v)::rest=>match v with
  |.bad=>none
  |v=>match Nat.beq (eJ v).length size && Nat.ble (off+size) cs.length with
   |true=>bW (gp cs off (eJ v)) rest
   |false=>none
def GB(T:Types)(ew:List (Nat×Nat))(ρ:Operand->V):List (Nat×Operand)->Option (List (Nat×Nat×V))
 |[]=>some []
 |(i,x)::r=>match ew.drop i with
  |(jU,off)::_=>match T.get jU with
   |some ti=>match GB T ew ρ r with
    |some l=>some ((off,ti.size,ρ x)::l)
    |none=>none
   |none=>none
  |[]=>none
def Dr(z:Nat)(ρ:Operand->V):List (Nat×Operand)->List (Nat×Nat×V)
 |[]=> []
 |(i,x)::r=>(i*z,z,ρ x)::Dr z ρ r
def dS(i:Nat)(x:V):Option V:=
 match x with
 |.da vs=>match vs.drop i with
  |v::_=>some v
  |[]=>none
 |_=>none
def abP(x:V):Option V:=
 match x with
 |.ptr b o=>some (.ptr b o)
 |.fu cs=>some (.fu cs)
 |.fn f a b=>some (.fn f a b)
 |.yield l=>some (.yield l)
 |_=>none
def n2(f:Nat)(a b:List V):Option V:=
 match a.any en || b.any en with
 |true=>none
 |false=>some (.fn f a b)
def mc(k:IntKind)(x:V):Option V:=
 match x with
 |.int _ n=>some (.int k (tU k n))
 |_=>none
def fP(x:V):Option V:=
 match x with
 |.af=>some (.int .i64 0)
 |.bx _ _ n _ _=>some (.int .i64 n)
 |.fs _ n=>some (.int .i64 n)
 |_=>none
def abr(x:V):Option V:=
 match x with
 |.str st=>some (.int .i64 st.size)
 |_=>none
def JK(s:S)(x:V):Option V:=
 match x with
 |.af=>some (.int .i64 0)
 |.bx b _ _ c _=>match s.h.get b with
  |some (.cells _ _ false _)=>some (.int .i64 c)
  |_=>none
 |_=>none
def abq(n:Nat)(x:V):Option V:=
 match x with
 |.bad=>none
 |_=>some (.int .i64 n)
def mq(gt:Bool)(l:List V):Option V:=
 match l.any en with
 |true=>none
 |false=>match l with
  |x::r=>mP gt x r
  |[]=>none
def jn(z:Nat)(x:V)(lo hi dk:Option V):Option V:=
 match x with
 |.af=>match bound dk 0 0 with
  |none=>none
  |some m=>match bound hi m 0 with
   |none=>none
   |some h=>match bound lo h 0,Nat.ble h m with
    |some _,true=>some .af
    |_,_=>none
 |.bx b o len cap _=>match bound dk cap cap with
  |none=>none
  |some m=>match bound hi m len with
   |none=>none
   |some h=>match bound lo h 0,Nat.ble h m with
    |some l,true=>some (.bx b (o+l*z) (h - l) (m - l) z)
    |_,_=>none
 |.fs cs len=>wB z len cs lo hi dk
 |_=>none
def G8(T:Types)(ρ:Operand->V)(s:S)(o:Op):Option V:=
 match o with
 |.binOp op t x y _=>bH op (T.get t) (ρ x) (ρ y)
 |.unOp op _ x=>un op (ρ x)
 |.load t a=>match T.get t with
  |some ti=>match ti.isAgg with
   |true=>bf ti.size s (ρ a)
   |false=>cZ s (ρ a)
  |none=>none
 |.fieldAddr t x f=>match T.get t with
  |some ti=>match ti.kind with
   |.struct ew=>match ew.drop f with
    |(jU,off)::_=>match T.get jU with
     |some ti=>match Nat.blt 0 ti.size with
      |true=>a6 off (ρ x)
      |false=>none
     |none=>none
    |[]=>none
   |_=>none
  |none=>none
 |.field t x f=>match T.get t with
  |some ti=>match ti.kind with
   |.struct ew=>match ew.drop f with
    |(jU,off)::_=>match T.get jU with
     |some ti=>match ti.isAgg with
      |true=>Yb off ti.size (ρ x)
      |false=>Yc off (ρ x)
     |none=>none
    |[]=>none
   |_=>none
  |none=>none
 |.indexAddr t x i=>match T.get t with
  |some ti=>match ti.kind with
   |.slice e=>match T.get e with
    |some te=>dW te.size (ρ x) (ρ i)
    |none=>none
   |.array n e=>match T.get e with
    |some te=>nR n te.size (ρ x) (ρ i)
    |none=>none
   |_=>none
  |none=>none
 |.index t x i=>match T.get t with
  |some ti=>match ti.kind with
   |.array n e=>match T.get e with
    |some te=>match te.isAgg with
     |true=>C5 n te.size (ρ x) (ρ i)
     |false=>aaP n te.size (ρ x) (ρ i)
    |none=>none
   |.string=>sv T t (ρ x) (ρ i)
   |_=>none
  |none=>none
 |.slice t x lo hi dk=>match hi,dk with
  |none,some _=>none
  |hi,dk=>match T.get t with
   |some ti=>match ti.kind with
    |.slice e=>match T.get e with
     |some te=>jn te.size (ρ x) (lo.map ρ) (hi.map ρ) (dk.map ρ)
     |none=>none
    |_=>nU T t (ρ x) (lo.map ρ) (hi.map ρ) (dk.map ρ)
   |none=>none
 |.build t ps=>match T.get t with
  |some ti=>match ti.kind with
   |.struct ew=>match GB T ew ρ ps.toList with
    |some l=>bW (zero ti) l
    |none=>none
   |.array _ e=>match T.get e with
    |some te=>bW (zero ti) (Dr te.size ρ ps.toList)
    |none=>none
   |_=>none
  |none=>none
 |.lookup t x i ok=>sz T t s (ρ x) (ρ i) ok
 |.extract t i=>dS i (ρ t)
 |.nilCheck x=>abP (ρ x)
 |.makeFunc fn a b=>match fn with
  |.func f=>n2 f (a.toList.map ρ) (b.toList.map ρ)
  |_=>none
 |.convert a b x=>match T.get a with
  |some S8=>match S8.kind with
   |.int _=>match T.get b with
    |some tQ=>match tQ.kind with
     |.int k=>mc k (ρ x)
     |_=>none
    |none=>none
   |_=>none
  |none=>none
 |.call c=>match c.callee with
  |.builtin .len=>match c.argTypes.toList,c.args.toList with
   |[t],[x]=>match T.get t with
    |some ti=>match ti.kind with
     |.slice _=>fP (ρ x)
     |.string=>abr (ρ x)
     |.array n _=>abq n (ρ x)
     |_=>none
    |none=>none
   |_,_=>none
  |.builtin .cap=>match c.argTypes.toList,c.args.toList with
   |[t],[x]=>match T.get t with
    |some ti=>match ti.kind with
     |.slice _=>JK s (ρ x)
     |_=>none
    |none=>none
   |_,_=>none
  |.builtin .max=>mq true (c.args.toList.map ρ)
  |.builtin .min=>mq false (c.args.toList.map ρ)
  |_=>none
 |_=>none
def aN(s:S):S:= { s with ag:=s.n }
def c6(s:S)(o:Option (V×S)):Option (V×S):=
 match o with
 |some (v,t)=>some (v, { t with ag:=min s.ag t.ag })
 |none=>none
def gv(cs:List V)(t:Nat)(s:S):Option (V×S):=some (.ptr s.n 0,newObj s (.cells cs t false true))
def jj(t:Nat)(x:V)(s:S):Option (V×S):=
 match x with
 |.bad=>none
 |v=>gv (eJ v) t s
def fl(z len e:Nat)(cs:List V)(ps:List (Nat×Nat×V))(s:S):Option (V×S):=
 match bW cs ps with
 |some (.agg l)=>some (.bx s.n 0 len len z,newObj s (.cells l e false true))
 |_=>none
def ef(z:Nat)(p v:V)(s:S):Option (V×S):=
 match v with
 |.bad=>none
 |v=>match p with
  |.ptr b o=>match Nat.beq (eJ v).length z with
   |true=>match ow s b o (eJ v) with
    |some s=>some (.bad,s)
    |none=>none
   |false=>none
  |_=>none
def zQ(te:cb)(x y:V)(s:S):Option (V×S):=
 match en x || en y with
 |true=>none
 |false=>copyV te s x y
def Eu(te:cb)(e:Nat)(x y:V)(s:S):Option (V×S):=
 match en x || en y with
 |true=>none
 |false=>ko te e s x y
def fD(te:cb)(e:Nat)(x y:V)(s:S):Option (V×S):=
 match y with
 |.str _=>none
 |y=>Eu te e x y s
def WX(te:cb)(e:Nat)(x y:V)(s:S):Option (V×S):=
 match y with
 |.str st=>Eu te e x (.str st) s
 |_=>none
def OF(te:cb)(e:Nat)(x y:V)(s:S):Option (V×S):=
 match en x || en y with
 |true=>none
 |false=>qU te e s x y
def abA(s:S):Option (V×S):=some (.map s.n,newObj s (.map [] true))
def ad1(o:Option S):Option (V×S):=
 match o with
 |some s=>some (.bad,s)
 |none=>none
def AX(T:Types)(ρ:Operand->V)(s:S)(o:Op):Option (V×S):=
 match o with
 |.alloc t=>match T.get t with
  |some ti=>gv (zero ti) t s
  |none=>none
 |.box t x=>jj t (ρ x) s
 |.buildSlice t len ps=>match T.get t with
  |some ti=>match ti.kind with
   |.slice e=>match T.get e with
    |some te=>match Nat.ble (len*te.size) 16777216 with
     |true=>fl te.size len e (cC len (zero te)) (Dr te.size ρ ps.toList) s
     |false=>none
    |none=>none
   |_=>none
  |none=>none
 |.store t a x=>match T.get t with
  |some ti=>ef ti.size (ρ a) (ρ x) s
  |none=>none
 |.makeSlice t l c=>eV T t (ρ l) (ρ c) s
 |.makeMap t r=>match T.get t with
  |some ti=>match ti.kind with
   |.map _ _=>match r with
    |none=>abA s
    |some _=>none
   |_=>none
  |none=>none
 |.mapUpdate t m k v=>ad1 (qS T t s (ρ m) (ρ k) (ρ v))
 |.convert a b x=>n1 T a b (ρ x) s
 |.call c=>match c.callee with
  |.builtin .append=>match c.argTypes.toList,c.args.toList with
   |[t,u],[x,y]=>match T.get t with
    |some ti=>match ti.kind with
     |.slice e=>match T.get u with
      |some Tf=>match Tf.kind with
       |.slice _=>match T.get e with
        |some te=>fD te e (ρ x) (ρ y) s
        |none=>none
       |.string=>match T.get e with
        |some te=>WX te e (ρ x) (ρ y) s
        |none=>none
       |.int _=>match T.get e with
        |some te=>OF te e (ρ x) (ρ y) s
        |none=>none
       |_=>none
      |none=>none
     |_=>none
    |none=>none
   |_,_=>none
  |.builtin .copy=>match c.argTypes.toList,c.args.toList with
   |[t,_],[x,y]=>match T.get t with
    |some ti=>match ti.kind with
     |.slice e=>match T.get e with
      |some te=>zQ te (ρ x) (ρ y) s
      |none=>none
     |_=>none
    |none=>none
   |_,_=>none
  |_=>none
 |_=>none
def guardOf(ops:Array Oper)(ρ:Operand->V)(o:Oper):Option (V×Bool):=
 match o.guard with
 |none=>none
 |some (j,want)=>match (ops[j]?).bind (·.dst) with
  |none=>some (.bool (!want),want)
  |some d=>some (ρ (.tmp d),want)
def oQ(cz:bt)(T:Types)(bG:Nat)(aP st:Bool)(ops:Array Oper):List Oper->aJ V->S->(aJ V->S->ax)->ax
 |[],e,s,k=>k e s
 |o::l,e,s,k=>
  match vH o.dst bG with
  |false=>none
  |true=>match kindOf T o.op with
   |.alias x=>match guardOf ops (bl e) o with
    |none=>oQ cz T bG aP st ops l (lD e o.dst (bl e x)) s k
    |some (g,want)=>aF (ic g want (some (bl e x))) λv=>oQ cz T bG aP st ops l (lD e o.dst v) s k
   |.pick c a b=>match guardOf ops (bl e) o with
    |none=>aF (di (bl e c) (bl e a) (bl e b)) λv=>oQ cz T bG aP st ops l (lD e o.dst v) s k
    |some (g,want)=>aF (ic g want (di (bl e c) (bl e a) (bl e b))) λv=>oQ cz T bG aP st ops l (lD e o.dst v) s k
   |.pure=>match guardOf ops (bl e) o with
    |none=>aF (G8 T (bl e) s o.op) λv=>oQ cz T bG aP st ops l (lD e o.dst v) s k
    |some (g,want)=>aF (ic g want (G8 T (bl e) s o.op)) λv=>oQ cz T bG aP st ops l (lD e o.dst v) s k
   |.state=>match guardOf ops (bl e) o with
    |none=>bZ (c6 s (AX T (bl e) (aN s) o.op)) λv s=>oQ cz T bG aP st ops l (lD e o.dst v) s k
    |some (g,want)=>bZ (gJ g want (c6 s (AX T (bl e) (aN s) o.op)) s) λv s=>oQ cz T bG aP st ops l (lD e o.dst v) s k
   |.call f args=>match guardOf ops (bl e) o with
    |none=>bZ (cJ cz aP st (bl e f) (args.map (bl e)) s) λv s=>oQ cz T bG aP st ops l (lD e o.dst v) s k
    |some (g,want)=>bZ (gJ g want (cJ cz aP st (bl e f) (args.map (bl e)) s) s) λv s=>oQ cz T bG aP st ops l (lD e o.dst v) s k
   |.bad=>none
def relevant(o:Op):Bool:=
 match o with
 |.move _=>false
 |.assign _=>false
 |.pick _ _ _=>false
 |.binOp _ _ _ _ _=>false
 |.unOp _ _ _=>false
 |.fieldAddr _ _ _=>false
 |.field _ _ _=>false
 |.indexAddr _ _ _=>false
 |.index _ _ _=>false
 |.slice _ _ _ _ _=>false
 |.build _ _=>false
 |.extract _ _=>false
 |.nilCheck _=>false
 |.makeFunc _ _ _=>false
 |_=>true
def writer(o:Op):Bool:=
 match o with
 |.store _ _ _=>true
 |.mapUpdate _ _ _ _=>true
 |.call c=>match c.callee with
  |.builtin _=>true
  |_=>false
 |_=>false
def rn(ops:Array Oper):Bool:=ops.toList.any λo=>writer o.op
def JX(ops:Array Oper):Bool:=
 ops.toList.zipIdx.all λx=> !(writer x.1.op) || ops.toList.zipIdx.all λy=> !(relevant y.1.op) || fixed (qb [] ops.toList) x.2 y.2
def aiO(o:Op):Bool:=
 match o with
 |.call c=>match c.callee with
  |.value _=>true
  |_=>false
 |_=>false
def O9(ops:Array Oper):Bool:=JX ops && !(rn ops && ops.toList.any λo=>aiO o.op)
def fe(m:List Nat)(flags:List ct):Bool:=(flags.zipIdx.all λx=>match x.1.f.w with
  |some []=>true
  |_=>flags.zipIdx.all λy=> !(x.1.f.lK y.1.f) || fixed m x.2 y.2) && zr flags
abbrev mX:=Option (V×S×ct)
def xD(s:S)(v:V):mX:=some (v,s,⟨⟨some [],some [],s.n,s.n⟩,[]⟩)
def eT(t:Reach)(s:S)(o:Option V):mX:=
 match o with
 |some v=>some (v,s,⟨⟨t,some [],s.n,s.n⟩,[]⟩)
 |none=>none
def e9(t w:Reach)(s:S)(o:Option (V×S)):mX:=
 match o with
 |some (v,t')=>some (v, { t' with ag:=min s.ag t'.ag },⟨⟨t,(match Nat.blt t'.ag s.n with
  |true=>w
  |false=>some []),s.n,t'.n⟩,[]⟩)
 |_=>none
def et(cz:bt)(f:V)(args:List V)(s:S):mX:=
 match args.any en with
 |true=>none
 |false=>match f with
  |.fn g first cap=>match kG dT g (first++(args++cap)) { s with ag:=s.n } with
   |(args,bs,bc)=>match cz g args bc with
    |some (v,kB)=>some (v, { kB with ag:=least bs (min s.ag kB.ag) },⟨⟨none,(match Nat.blt kB.ag s.n with
     |true=>none
     |false=>some []),s.n,kB.n⟩,bs⟩)
    |none=>none
  |_=>none
def ga(g:Option (V×Bool))(s:S)(o:mX):mX:=
 match g with
 |none=>o
 |some (g,want)=>match g with
  |.bool b=>match (b == want) with
   |true=>o
   |false=>xD s (.da [])
  |.da []=>xD s (.da [])
  |_=>none
def dp(o:mX)(k:V->S->ct->ax):ax:=
 match o with
 |some (v,s,x)=>G0 v λv=>My s λs=>k v s x
 |none=>none
theorem pX(o:mX)(k:V->S->ct->ax):dp o k=(match o with
 |some (v,s,x)=>k v s x
 |none=>none):=by
 cases o with
 |none=>rfl
 |some p=>
  obtain ⟨v,s,x⟩:=p;simp only[dp,Mz,adE]
def Sd(cz:bt)(T:Types)(e:aJ V)(s:S)(o:Op):mX:=
 match kindOf T o with
 |.alias x=>xD s (bl e x)
 |.pick c a b=>eT (some []) s (di (bl e c) (bl e a) (bl e b))
 |.pure=>eT (cp (bl e) o) s (G8 T (bl e) s o)
 |.state=>e9 (cp (bl e) o) (hM (bl e) o) s (AX T (bl e) (aN s) o)
 |.call f args=>et cz (bl e f) (args.map (bl e)) s
 |.bad=>none
def gZ(b:Bool)(k:ax):ax:=
 match b with
 |true=>k
 |false=>none
def aw(k:List V->S->ax)(c:(List V->S->ax)->ax):ax:=c k
def EL(cz:bt)(T:Types)(bG:Nat)(ops:Array Oper)(m:List Nat):List Oper->List ct->aJ V->S->(aJ V->S->ax)->ax
 |[],bO,e,s,k=>gZ (fe m bO.reverse) (k e s)
 |o::l,bO,e,s,k=>
  match vH o.dst bG with
  |false=>none
  |true=>dp (ga (guardOf ops (bl e) o) s (Sd cz T e s o.op)) λv s x=>EL cz T bG ops m l (x::bO) (lD e o.dst v) s k
def Es(t:Nat)(l:List Nat):List Nat:=
 match l.contains t with
 |true=>l
 |false=>t::l
def WL(x:Operand)(l:List Nat):List Nat:=
 match x with
 |.tmp t=>Es t l
 |_=>l
def aov(a b:List Nat):List Nat:=a.foldr Es b
def aoX(ops:Array Oper)(l:List Oper)(out:List Nat):List Nat:=
 l.foldr (λo acc=>
  let acc:=match o.dst,o.guard with
   |some d,none=>acc.filter (λt=> !(Nat.beq t d))
   |some d,some _=>acc.filter (λt=> !(Nat.beq t d))
   |none,_=>acc
  let acc:=o.op.operands.toList.foldr WL acc
  match o.guard with
  |some (j,_)=>match (ops[j]?).bind (·.dst) with
   |some d=>Es d acc
   |none=>acc
  |none=>acc) out
def tG(k9:List Nat):Code->List (Nat×List Nat)->List Nat->List Nat
 |.skip,_,out=>out
 |.label _,_,out=>out
 |.ret,_,_=>k9
 |.exit i,xs,_=>match xs.find? (λp=>Nat.beq p.1 i) with
  |some p=>p.2
  |none=> []
 |.region _ ops _,_,out=>aoX ops ops.toList out
 |.seq a b,xs,out=>tG k9 a xs (tG k9 b xs out)
 |.cond c a b,xs,out=>WL c (aov (tG k9 a xs out) (tG k9 b xs out))
 |.block i c,xs,out=>tG k9 c ((i,out)::xs) out
 |.loop c,xs,_=>let Gi:=tG k9 c xs []
  let bk:=tG k9 c xs Gi
  tG k9 c xs bk
 |.scope c,xs,out=>tG k9 c xs out
 |.rangeFunc _ _ _ _,_,out=>out
 |_,_,out=>out
def ot(L:List Nat)(e:aJ V):List V:=L.map λt=>bl e (.tmp t)
def nth:List V->Nat->V
 |[],_=>.bad
 |v::_,0=>v
 |_::l,n+1=>nth l n
def EZ:List Nat->List V->Nat->aJ V
 |[],_,_=>.leaf
 |t::L,vs,i=>(EZ L vs (i+1)).set t (nth vs i)
def yt(L:List Nat)(vs:List V):aJ V:=EZ L vs 0
def join(L:List Nat)(k:aJ V->S->ax)(c:(aJ V->S->ax)->ax):ax:=
 aw (λvs s=>k (yt L vs) s) λj=>c λe s=>j (ot L e) s
def cT(n:Nat)(body:(List V->S->ax)->List V->S->ax):List V->S->ax:=
 Nat.rec (motive:=λ_=>List V->S->ax) (λ_ _=>none) (λ_ a3=>body a3) n
def den(cz:bt)(T:Types)(bG n:Nat)(k9:List Nat):Code->List (Nat×List Nat)->List Nat->aJ V->S->(aJ V->S->ax)->(Nat->aJ V->S->ax)->(aJ V->S->ax)->ax
 |.skip,_,_,e,s,jN,_,_=>jN e s
 |.label _,_,_,e,s,jN,_,_=>jN e s
 |.ret,_,_,e,s,_,_,iV=>iV e s
 |.exit i,_,_,e,s,_,jz,_=>jz i e s
 |.region _ ops aP,_,_,e,s,jN,_,_=>match (match aP with
   |true=>O9 ops
   |false=>true) with
  |true=>oQ cz T bG aP (rn ops) ops ops.toList e s jN
  |false=>EL cz T bG ops (qb [] ops.toList) ops.toList [] e s jN
 |.seq a b,xs,out,e,s,jN,jz,iV=>den cz T bG n k9 a xs (tG k9 b xs out) e s (λe s=>den cz T bG n k9 b xs out e s jN jz iV) jz iV
 |.cond c a b,xs,out,e,s,jN,jz,iV=>join out jN λk=>aW (bl e c) (den cz T bG n k9 a xs out e s k jz iV) (den cz T bG n k9 b xs out e s k jz iV)
 |.block i c,xs,out,e,s,jN,jz,iV=>join out jN λk=>den cz T bG n k9 c ((i,out)::xs) out e s k (λj e s=>match Nat.beq j i with
  |true=>k e s
  |false=>jz j e s) iV
 |.loop c,xs,out,e,s,_,jz,iV=>(λ(L:List Nat)=>cT n (λa3 vs s=>den cz T bG n k9 c xs L (yt L vs) s (λe s=>a3 (ot L e) s) jz iV) (ot L e) s) (tG k9 (.loop c) xs out)
 |.scope c,xs,out,e,s,jN,jz,iV=>den cz T bG n k9 c xs out e s jN jz iV
 |_,_,_,_,_,_,_,_=>none
def AZ(T:Types)(e:aJ V)(s:S):List ResultVar->List (Option V)
 |[]=> []
 |.tmp t::r=>some (bl e (.tmp t))::AZ T e s r
 |.cell a t::r=>(match T.get t with
  |some ti=>match ti.isAgg with
   |true=>bf ti.size s (bl e (.tmp a))
   |false=>cZ s (bl e (.tmp a))
  |none=>none)::AZ T e s r
def sY:List (Option V)->Option (List V)
 |[]=>some []
 |some v::r=>match v with
  |.bad=>none
  |v=>match sY r with
   |some l=>some (v::l)
   |none=>none
 |none::_=>none
def bB(ao s:S)(l:List (Option V)):ax:=
 match sY l with
 |some vs=>some (packed ao s (pI vs))
 |none=>none
def yu(l:List (Option V))(s:S):ax:=
 match sY l with
 |some vs=>some (pI vs,s)
 |none=>none
def e5(o:Bool)(ao s:S)(l:List (Option V)):ax:=match o with
 |true=>yu l s
 |false=>bB ao s l
def J7(o:Bool)(T:Types)(rs:List ResultVar)(ao:S)(e:aJ V)(s:S):ax:=e5 o ao s (AZ T e s rs)
def Mi:List ResultVar->List Nat
 |[]=> []
 |.tmp t::r=>Es t (Mi r)
 |.cell a _::r=>Es a (Mi r)
def oP(o:Bool)(cz:bt)(T:Types)(n:Nat)(fn:Func)(args:List V)(s:S):ax:=
 match fn.body with
 |none=>none
 |some c=>match Nat.ble args.length fn.ntmps with
  |false=>none
  |true=>den cz T fn.ntmps n (Mi fn.results.toList) c [] (Mi fn.results.toList) (aJ.ofList .leaf 0 args) s (J7 o T fn.results.toList s) (λ_ _ _=>none) (J7 o T fn.results.toList s)
section
variable {T:Types}{s aK:S}{ρ dq:Operand->V}
theorem Pj{o:Op}(h:∀x∈o.operands,ρ x=dq x):evalOp T ρ s o=evalOp T dq s o:=by
 have hm:∀ {l:List Operand},(∀x∈l,ρ x=dq x)->l.map ρ=l.map dq:=λh=>Bk h;have al:∀ {l:List (Nat×Operand)},(∀p∈l,ρ p.2=dq p.2)->(l.map λp=>(p.1,ρ p.2))=l.map λp=>(p.1,dq p.2):=λh=>Bk λp al=>by rw[h p al]
 cases o<;>simp only[evalOp]
 case move x=>rw[h x (by simp[Op.operands])]
 case assign x=>rw[h x (by simp[Op.operands])]
 case pick c a b=>rw[h c (by simp[Op.operands]),h a (by simp[Op.operands]),h b (by simp[Op.operands])]
 case box t x=>rw[h x (by simp[Op.operands])]
 case build t ps=>simp only[lA];rw[al (λp al=>h p.2 (by simp[Op.operands];exact ⟨p.1,by simpa using al⟩))]
 case buildSlice t len ps=>simp only[lA];rw[al (λp al=>h p.2 (by simp[Op.operands];exact ⟨p.1,by simpa using al⟩))]
 case load t a=>rw[h a (by simp[Op.operands])]
 case store t a x=>rw[h a (by simp[Op.operands]),h x (by simp[Op.operands])]
 case nilCheck x=>rw[h x (by simp[Op.operands])]
 case binOp op t x y mR=>rw[h x (by simp[Op.operands]),h y (by simp[Op.operands])]
 case unOp op t x=>rw[h x (by simp[Op.operands])]
 case convert a b x=>rw[h x (by simp[Op.operands])]
 case makeFunc fn a b=>rw[hm (λx hx=>h x (by simp[Op.operands];exact .inl (by simpa using hx))),hm (λx hx=>h x (by simp[Op.operands];exact .inr (by simpa using hx)))]
 case mapUpdate t m k v=>rw[h m (by simp[Op.operands]),h k (by simp[Op.operands]),h v (by simp[Op.operands])]
 case makeSlice t l c=>rw[h l (by simp[Op.operands]),h c (by simp[Op.operands])]
 case slice t x lo hi dk=>
  have ph:=h x (by simp[Op.operands]);have aC:lo.map ρ=lo.map dq:=by
   cases lo with
   |none=>rfl
   |some y=>simp only[Option.map_some];rw[h y (by simp[Op.operands])]
  rw[ph,aC];cases hi with
  |none=>cases dk<;>rfl
  |some y=>
   have X9:=h y (by simp[Op.operands]);cases dk with
   |none=>simp only[Option.map_some,X9];rfl
   |some z=>simp only[Option.map_some,X9,h z (by simp[Op.operands])]
 case fieldAddr t x f=>rw[h x (by simp[Op.operands])]
 case field t x f=>rw[h x (by simp[Op.operands])]
 case indexAddr t x i=>rw[h x (by simp[Op.operands]),h i (by simp[Op.operands])]
 case index t x i=>rw[h x (by simp[Op.operands]),h i (by simp[Op.operands])]
 case lookup t x i ok=>rw[h x (by simp[Op.operands]),h i (by simp[Op.operands])]
 case extract t i=>rw[h t (by simp[Op.operands])]
 case call c=>
  unfold ix;have av:c.args.toList.map ρ=c.args.toList.map dq:=hm λx hx=>h x (by
   simp only[Op.operands];unfold Call.operands;split<;>simp_all)
  rw[av];split;rfl;rfl;rename_i f aM;rw[h f (by simp only[Op.operands];unfold Call.operands;simp[aM])]
theorem Ps{te:cb}{e n len:Nat}{l pre:List V}{v:V}(E:fresh te e n len l pre s=some (v,aK)):s.n<=aK.n:=by
 unfold fresh at E;split at E;simp only[cU,c4]at E;obtain ⟨_,rfl⟩:=E;simp[newObj];cases E
theorem Ty{b o:Nat}{l:List V}(E:ow s b o l=some aK):aK.n=s.n:=by
 unfold ow at E;split at E;split at E;cases E;rfl;cases E;cases E
theorem ata{te:cb}{e:Nat}{x y v:V}(E:qU te e s x y=some (v,aK)):s.n<=aK.n:=by
 unfold qU at E;split at E;split at E;simp only[cU,c4]at E;obtain ⟨_,rfl⟩:=E;simp[newObj];cases E;cases E
theorem WZ{te:cb}{e:Nat}{x y v:V}(E:ko te e s x y=some (v,aK)):s.n<=aK.n:=by
 have same:∀ {v w:V},some (v,s)=some (w,aK)->s.n<=aK.n:=λh=>by
  simp only[cU,c4]at h;obtain ⟨_,rfl⟩:=h;exact cg _
 unfold ko at E;split at E;cases E;split at E;split at E;exact same E;exact Ps E;split at E;exact same E;cases E;split at E;cases E;split at E;exact same E;split at E;split at E;rename_i hw;have:=Ty hw;simp only[cU,c4]at E;obtain ⟨_,rfl⟩:=E;omega;cases E;split at E;split at E;exact Ps E;cases E;split at E;split at E;rename_i aM;cases E;have:=Ps aM;exact this;cases E;cases E;cases E;cases E
theorem ai2{te:cb}{x y v:V}(E:copyV te s x y=some (v,aK)):s.n<=aK.n:=by
 have same:∀ {v w:V},some (v,s)=some (w,aK)->s.n<=aK.n:=λh=>by
  simp only[cU,c4]at h;obtain ⟨_,rfl⟩:=h;exact cg _
 unfold copyV at E;split at E;split at E<;>first|(cases E;done)|exact same E
 split at E;cases E;split at E;exact same E;split at E;split at E;rename_i hw;have:=Ty hw;simp only[cU,c4]at E;obtain ⟨_,rfl⟩:=E;omega;cases E;cases E;cases E
theorem X8{o:Op}{r:jr}(E:evalOp T ρ s o=some (r,aK)):s.n<=aK.n:=by
 have same:∀ {r r':jr},some (r,s)=some (r',aK)->s.n<=aK.n:=λh=>by
  simp only[cU,c4]at h;obtain ⟨_,rfl⟩:=h;exact cg _
 have new:∀ {r r':jr} {o:Obj},some (r,newObj s o)=some (r',aK)->s.n<=aK.n:=λh=>by
  simp only[cU,c4]at h;obtain ⟨_,rfl⟩:=h;simp[newObj]
 have GA:∀ {x:Option V} {r:jr},one x s=some (r,aK)->s.n<=aK.n:=λh=>by rw[wv h];exact cg _
 cases o<;>simp only[evalOp]at E<;>try first|(cases E;done)|exact same E|exact GA E
 case pick c a b=>split at E<;>first|(cases E;done)|exact same E
 case alloc t=>split at E<;>first|(cases E;done)|exact new E
 case box t x=>split at E<;>first|(cases E;done)|exact new E
 case buildSlice t len ps=>
  obtain ⟨v,ad⟩:=o7 E;unfold qy at ad;split at ad;split at ad;split at ad;split at ad;simp only[cU,c4]at ad;obtain ⟨_,rfl⟩:=ad;simp[newObj];cases ad;cases ad;cases ad;cases ad
 case load t a=>split at E<;>first|(cases E;done)|exact GA E
 case store t a x=>
  split at E;unfold three at E;split at E;rename_i bc ae;simp only[cU,c4]at E;obtain ⟨_,rfl⟩:=E;unfold storeT at ae;split at ae;cases ae;split at ae;rw[Ty ae];exact cg _;cases ae;cases ae;cases E;cases E
 case nilCheck x=>split at E<;>first|(cases E;done)|exact same E
 case convert a b x=>
  obtain ⟨v,ad⟩:=o7 E;have A0:∀ {v w:V},some (v,s)=some (w,aK)->s.n<=aK.n:=λh=>by
   simp only[cU,c4]at h;obtain ⟨_,rfl⟩:=h;exact cg _
  unfold n1 at ad;split at ad;exact A0 ad;exact A0 ad;split at ad;split at ad;exact A0 ad;split at ad;split at ad<;>first|(cases ad;done)|exact A0 ad
  cases ad;split at ad;split at ad<;>first|(cases ad;done)|exact A0 ad
  cases ad;cases ad;cases ad;split at ad;split at ad;simp only[cU,c4]at ad;obtain ⟨_,rfl⟩:=ad;simp[newObj];cases ad;cases ad;cases ad
 case makeFunc fn a b=>split at E<;>first|(cases E;done)|exact same E
 case makeMap t r=>split at E<;>first|(cases E;done)|exact new E
 case mapUpdate t m k v=>
  unfold three at E;split at E;rename_i bc ae;simp only[cU,c4]at E;obtain ⟨_,rfl⟩:=E;unfold qS at ae;split at ae;cases ae;split at ae;split at ae;split at ae;split at ae;cases ae;exact cg _;cases ae;cases ae;cases ae;cases ae;cases E
 case makeSlice t l c=>
  obtain ⟨v,ad⟩:=o7 E;unfold eV at ad;split at ad;split at ad;split at ad;simp only[cU,c4]at ad;obtain ⟨_,rfl⟩:=ad;simp[newObj];cases ad;cases ad;cases ad
 case slice t x lo hi dk=>split at E<;>first|(cases E;done)|exact GA E
 case extract t i=>
  split at E;split at E<;>first|(cases E;done)|exact same E
  cases E
 case call c=>
  unfold ix at E;split at E;split at E;cases E;unfold iR at E;split at E;split at E<;>first|(cases E;done)|exact same E|skip
  split at E<;>first|(cases E;done)|exact same E
  split at E<;>first|(cases E;done)|exact same E|skip
  split at E<;>first|(cases E;done)|exact same E
  split at E;split at E;cases E;obtain ⟨v,ad⟩:=o7 E;exact WZ ad;cases E;split at E;obtain ⟨v,ad⟩:=o7 E;exact WZ ad;cases E;split at E;obtain ⟨v,ad⟩:=o7 E;exact ata ad;cases E;cases E;split at E;split at E;obtain ⟨v,ad⟩:=o7 E;exact ai2 ad;cases E;cases E;exact GA E;exact GA E;cases E;cases E;split at E<;>first|(cases E;done)|exact same E
theorem aqr{o:Op}(hk:kindOf T o=.pure){v:V}(E:evalOp T ρ s o=some (.val v,aK)):aK=s:=by
 have same:∀ {r r':jr},some (r,s)=some (r',aK)->aK=s:=λh=>by
  simp only[cU,c4]at h;exact h.2.symm
 cases o<;>simp only[kindOf]at hk<;>simp only[evalOp]at E<;>try first|(cases hk;done)|(cases E;done)|exact same E|exact wv E
 case load t a=>split at E<;>first|(cases E;done)|exact wv E
 case nilCheck x=>split at E<;>first|(cases E;done)|exact same E
 case convert a b x=>
  split at hk;rename_i Y;obtain ⟨v,ad⟩:=o7 E;have A0:∀ {v w:V},some (v,s)=some (w,aK)->aK=s:=λh=>by
   simp only[cU,c4]at h;exact h.2.symm
  unfold n1 at ad;rw[Y]at ad;split at ad<;>first|exact A0 ad|(cases ad;done)|(simp_all;done)
  cases hk
 case makeFunc fn a b=>split at E<;>first|(cases E;done)|exact same E
 case slice t x lo hi dk=>split at E<;>first|(cases E;done)|exact wv E
 case extract t i=>
  split at E;split at E<;>first|(cases E;done)|exact same E
  cases E
 case call c=>
  unfold ix at E;split at E
  ·rename_i b Y;rw[Y]at hk;split at E
   ·cases E
   ·unfold iR at E;cases b<;>simp only[]at hk<;>first|(cases hk;done)|skip
    all_goals
     split at E;all_goals first|(cases E;done)|exact wv E|(rename_i e _ _;cases e;done)|skip
     all_goals first|(split at E<;>first|(cases E;done)|exact same E|(split at E<;>first|(cases E;done)|exact same E))|skip
  cases E;rename_i f aM;rw[aM]at hk;cases hk
end
section
variable {T:Types}{s aK:S}{ρ dq:Operand->V}
theorem J6{place:Nat->Option (Nat×Nat)} :∀ {ps:List (Nat×V)} {cs l:List V},mf place cs ps=some l-> ∀p∈ps,p.2≠ .bad
 |[],_,_,_,p,al=>by cases al
 |(i,v)::ps,cs,l,E,p,al=>by
  unfold mf at E;split at E;cases E;split at E;cases E;rename_i Y;split at E;rcases hc.1 al with rfl|al
  exact Y;exact J6 E p al;cases E
theorem ra{x:Option V}{a b n:Nat}(E:bound x a b=some n):x≠some .bad:=by
 rintro rfl;cases E
theorem ady{z len:Nat}{cs:List V}{lo hi dk:Option V}{v:V}(E:wB z len cs lo hi dk=some v):lo≠some .bad∧hi≠some .bad∧dk≠some .bad:=by
 unfold wB at E;split at E;cases E;rename_i J;split at E;cases E;rename_i U;split at E;rename_i aj _;exact ⟨ra aj,ra U,ra J⟩;cases E
theorem arA{t:Nat}{x:V}{lo hi dk:Option V}{v:V}(E:nU T t x lo hi dk=some v):x≠ .bad∧lo≠some .bad∧hi≠some .bad∧dk≠some .bad:=by
 unfold nU at E;split at E;cases E;split at E;split at E;cases E;split at E;cases E;rename_i U;split at E;cases E;rename_i aj;exact ⟨by simp,ra aj,ra U,by simp⟩;split at E;cases E;split at E;cases E;rename_i J;split at E;cases E;rename_i U;split at E;rename_i aj _;exact ⟨by simp,ra aj,ra U,ra J⟩;cases E;split at E;cases E;split at E;cases E;rename_i J;split at E;cases E;rename_i U;split at E;rename_i aj _;exact ⟨by simp,ra aj,ra U,ra J⟩;cases E;split at E;cases E;exact ⟨by simp,ady E⟩;split at E;cases E;split at E;cases E;rename_i J;split at E;cases E;rename_i U;split at E;rename_i aj _;exact ⟨by simp,ra aj,ra U,ra J⟩;cases E;split at E;cases E;exact ⟨by simp,ady E⟩;cases E
theorem wq{o:Option V}{r:jr}(E:one o s=some (r,aK)):∃v,o=some v:=by
 unfold one at E;split at E;exact ⟨_,rfl⟩;cases E
theorem ad5{t:cb}{x y:V}{b:Bool}(E:l0 t x y=some b):x≠ .bad∧y≠ .bad:=by
 constructor;rintro rfl;unfold l0 at E;simp only[]at E;unfold rY at E;split at E<;>first|(cases E;done)|(rename_i h _;cases h;done)|(rename_i h;cases h;done)|simp_all
 rintro rfl;unfold l0 at E;simp only[]at E;unfold rY at E;split at E<;>first|(cases E;done)|(rename_i h;cases h;done)|simp_all
theorem Xb{op:BinOp}{t:Option cb}{x y v:V}(E:bin op t x y=some v):x≠ .bad∧y≠ .bad:=by
 unfold bin at E;split at E;exact ⟨by simp,by simp⟩;exact ⟨by simp,by simp⟩;split at E;split at E;rename_i h;exact ad5 h;cases E;split at E;rename_i h;exact ad5 h;cases E;cases E
theorem J4{o:Op}{v:V}(E:evalOp T ρ s o=some (.val v,aK))(hk:kindOf T o=.pure∨kindOf T o=.state)(Y:BW ρ o=false):∀x∈o.operands,ρ x≠ .bad:=by
 intro x hx;cases o<;>simp only[evalOp]at E<;>simp only[Op.operands]at hx<;>try first|(cases E;done)|(simp at hx;done)|(rcases hk with hk|hk<;>(cases hk;done))
 case box t y=>
  simp only[pa,hc,oy,or_false]at hx;subst hx;intro e;rw[e]at E;cases E
 case build t ps=>
  obtain ⟨w,hw⟩:=wq E;simp only[pa,qn]at hx;obtain ⟨p,al,rfl⟩:=hx;have hm:(p.1,ρ p.2)∈lA ρ ps:=qn.2 ⟨p,al,rfl⟩;unfold s3 at hw;split at hw;split at hw;split at hw;rename_i aM;exact J6 aM _ hm;cases hw;split at hw;split at hw;rename_i aM;exact J6 aM _ hm;cases hw;cases hw;cases hw;cases hw
 case buildSlice t len ps=>
  obtain ⟨w,hw⟩:=o7 E;simp only[pa,qn]at hx;obtain ⟨p,al,rfl⟩:=hx;have hm:(p.1,ρ p.2)∈lA ρ ps:=qn.2 ⟨p,al,rfl⟩;unfold qy at hw;split at hw;split at hw;split at hw;split at hw;rename_i aM;exact J6 aM _ hm;cases hw;cases hw;cases hw;cases hw
 case load t a=>
  simp only[pa,hc,oy,or_false]at hx;subst hx;intro e;rw[e]at E;split at E;obtain ⟨w,hw⟩:=wq E;unfold loadT at hw;split at hw<;>simp[rd]at hw;cases E
 case store t a y=>
  simp only[pa,hc,oy,or_false]at hx;split at E;unfold three at E;split at E;rename_i ae;unfold storeT at ae;split at ae;cases ae;rename_i J U;rcases hx with rfl|rfl
  rw[J];simp;exact U;cases ae;cases E;cases E
 case nilCheck y=>
  simp only[pa,hc,oy,or_false]at hx;subst hx;intro e;rw[e]at E;cases E
 case binOp op t y z mR=>
  obtain ⟨w,hw⟩:=wq E;simp only[pa,hc,oy,or_false]at hx;rcases hx with rfl|rfl
  exact (Xb hw).1;exact (Xb hw).2
 case unOp op t y=>
  obtain ⟨w,hw⟩:=wq E;simp only[pa,hc,oy,or_false]at hx;subst hx;intro e;rw[e]at hw;cases hw
 case convert a b y=>
  obtain ⟨w,hw⟩:=o7 E;simp only[pa,hc,oy,or_false]at hx;subst hx;intro e;rw[e]at hw;unfold n1 at hw;split at hw;rename_i h;cases h;rename_i h;cases h;split at hw<;>cases hw;rename_i h;cases h;cases hw
 case makeFunc fn a b=>
  simp only[Array.mem_append]at hx;simp only[BW,Bool.or_eq_false_iff,zu,qn]at Y;intro e;rcases hx with hx|hx
  have:=Y.1 (ρ x) ⟨x,by simpa using hx,rfl⟩;rw[e]at this;simp[en]at this;have:=Y.2 (ρ x) ⟨x,by simpa using hx,rfl⟩;rw[e]at this;simp[en]at this
 case makeMap t r=>
  split at E;simp at hx;cases E
 case mapUpdate t m k v'=>
  simp only[pa,hc,oy,or_false]at hx;unfold three at E;split at E;rename_i bc ae;unfold qS at ae;split at ae;cases ae;rename_i ad;split at ae;split at ae;rename_i J U;rcases hx with rfl|rfl|rfl
  rw[J];simp;rw[U];simp;exact ad;cases ae;cases ae;cases E
 case makeSlice t l c=>
  obtain ⟨w,hw⟩:=o7 E;simp only[pa,hc,oy,or_false]at hx;unfold eV at hw;split at hw;rename_i J U;rcases hx with rfl|rfl
  rw[J];simp;rw[U];simp;cases hw
 case slice t y lo hi dk=>
  have key:∃w,nU T t (ρ y) (lo.map ρ) (hi.map ρ) (dk.map ρ)=some w:=by
   split at E;cases E;exact wq E
  obtain ⟨w,hw⟩:=key;obtain ⟨J,U,aj,aH⟩:=arA hw;simp only[Array.mem_append,pa,hc,oy,or_false,Option.mem_toArray]at hx;rcases hx with ((rfl|hx)|hx)|hx
  exact J;subst hx;intro e;exact U (by simp[e]);subst hx;intro e;exact aj (by simp[e]);subst hx;intro e;exact aH (by simp[e])
 case fieldAddr t y f=>
  obtain ⟨w,hw⟩:=wq E;simp only[pa,hc,oy,or_false]at hx;subst hx;intro e;rw[e]at hw;unfold s5 at hw;split at hw;split at hw;split at hw;split at hw<;>cases hw;cases hw;cases hw;cases hw
 case field t y f=>
  obtain ⟨w,hw⟩:=wq E;simp only[pa,hc,oy,or_false]at hx;subst hx;intro e;rw[e]at hw;unfold s6 at hw;split at hw;rename_i h;cases h;cases hw
 case indexAddr t y i=>
  obtain ⟨w,hw⟩:=wq E;simp only[pa,hc,oy,or_false]at hx;unfold tz at hw;split at hw;all_goals first|(cases hw;done)|skip
  all_goals
   rename_i J U;rcases hx with rfl|rfl
   rw[J];simp;rw[U];simp
 case index t y i=>
  obtain ⟨w,hw⟩:=wq E;simp only[pa,hc,oy,or_false]at hx;unfold sv at hw;split at hw;all_goals first|(cases hw;done)|skip
  all_goals
   rename_i J U;rcases hx with rfl|rfl
   rw[J];simp;rw[U];simp
 case lookup t y i ok=>
  obtain ⟨w,hw⟩:=wq E;simp only[pa,hc,oy,or_false]at hx;unfold sz at hw;split at hw;split at hw;split at hw;rename_i J U;rcases hx with rfl|rfl
  intro e;rw[e]at J;cases J;rw[U];simp;cases hw;cases hw;cases hw
 case extract t i=>
  simp only[pa,hc,oy,or_false]at hx;subst hx;intro e;rw[e]at E;cases E
 case call c=>
  have aa:∃b,c.callee=.builtin b:=by
   cases iU:c.callee with
   |builtin b=>exact ⟨b,rfl⟩
   |invoke _ _=>simp only[kindOf,iU]at hk;rcases hk with h|h<;>cases h
   |value f=>simp only[kindOf,iU]at hk;rcases hk with h|h<;>cases h
  obtain ⟨b,aa⟩:=aa;unfold ix at E;simp only[aa]at E;split at E;cases E;rename_i h8;intro e;have J:(c.args.toList.map ρ).any en=true:=by
   rw[tY];refine ⟨ρ x,qn.2 ⟨x,?_,rfl⟩,by rw[e];rfl⟩;unfold Call.operands at hx;simp only[aa]at hx;simpa using hx
  rw[J]at h8;cases h8
end
end Go.ah.X
