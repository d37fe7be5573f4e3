/-
  A part: lemmas; conditions: those that each names.
-/
import Derived.Test.YtalmddmghdinkaaGreatDoorP
set_option linter.all false
set_option linter.deprecated false
noncomputable section
namespace Go.ah.X
open Go
section
section
variable (O:bo)(G:aJ Func)(T:Types)
open Classical in
def mb:bt:=λf args s=>if h:∃r:V×S,n0 O G T f args s (λv s'=>(v,s')=r∧s.n<=s'.n) then some h.choose else none
end
variable {O:bo}{G:aJ Func}{T:Types}
theorem XG:wT O G T (mb O G T):=λf args s r h _=>by
 unfold mb at h;split at h;rename_i h';cases h;exact h'.choose_spec;cases h
theorem n0.same{f:Nat}{args:List V}{s:S}{r q:V×S}{A B:V->S->Prop}(h:n0 O G T f args s λv s'=>(v,s')=r∧A v s')(h':n0 O G T f args s λv s'=>(v,s')=q∧B v s'):r=q:=by
 obtain ⟨n,x,J,U⟩:=h;obtain ⟨m,y,aj,aH⟩:=h';have:=PH J aj;subst this;split at U;exact U.1.symm.trans aH.1;exact U.elim
theorem XF{f:Nat}{args:List V}{s:S}{r:V×S}(h:n0 O G T f args s λv s'=>(v,s')=r∧s.n<=s'.n):mb O G T f args s=some r:=by
 have h':∃r:V×S,n0 O G T f args s (λv s'=>(v,s')=r∧s.n<=s'.n):=⟨r,h⟩;unfold mb;rw[dif_pos h'];exact congrArg some (n0.same h'.choose_spec h)
theorem bz.run{f:Nat}{F:Fn}(nK:bz O G T f F)(n:Nat){args:List V}{s:S}{r:V×S}(h:F (mb O G T) n args s=some r)(hw:s.ag<=s.n):mb O G T f args s=some r:=XF (nK _ XG n args s r h hw)
theorem aiS{f:Nat}{g:List V->S->Option V}(aE:O f=some g){args:List V}{s:S}{v:V}(h:g args s=some v)(hw:s.n<=s.ag):mb O G T f args s=some (v,s):=
 XF ⟨1,.val v s,by
  show step dT O G T (go dT O G T 0) (.call f args s)=_;unfold step nt;have:Nat.ble s.n s.ag=true:=by rw[eu];exact hw
  simp only[aE,this,h],rfl,cg _⟩
@[congr] theorem atp{o o':Option V}{k:V->ax}(h:o=o'):aF o k=aF o' k:=by rw[h]
@[congr] theorem ato{o o':Option (V×S)}{k:V->S->ax}(h:o=o'):bZ o k=bZ o' k:=by rw[h]
@[congr] theorem atn{o o':mX}{k:V->S->ct->ax}(h:o=o'):dp o k=dp o' k:=by rw[h]
@[congr] theorem atx{v v':V}{a b:ax}(h:v=v'):aW v a b=aW v' a b:=by rw[h]
@[congr] theorem avl{n:Nat}{b:(List V->S->ax)->List V->S->ax}{l l':List V}{s:S}(h:l=l'):cT n b l s=cT n b l' s:=by rw[h]
theorem eI(k:List V->S->ax)(c:(List V->S->ax)->ax)(r:ax):(aw k c=r)=(c k=r):=propext ⟨id,id⟩
theorem Cc{p:Prop}[Decidable p](a b:ax)(h:p):aW (.bool (decide p)) a b=a:=by rw[gi h];rfl
theorem EJ{p:Prop}[Decidable p](a b:ax)(h: ¬p):aW (.bool (decide p)) a b=b:=by rw[e3 h];rfl
theorem akE{p:Prop}[Decidable p](o:Option V)(h:p):ic (.bool (decide p)) true o=o:=by rw[gi h];rfl
theorem akC{p:Prop}[Decidable p](o:Option V)(h: ¬p):ic (.bool (decide p)) true o=some (.da []):=by rw[e3 h];rfl
theorem akF{p:Prop}[Decidable p](o:Option V)(h:p):ic (.bool (decide p)) false o=some (.da []):=by rw[gi h];rfl
theorem akD{p:Prop}[Decidable p](o:Option V)(h: ¬p):ic (.bool (decide p)) false o=o:=by rw[e3 h];rfl
theorem aql{p:Prop}[Decidable p](a b:V)(h:p):di (.bool (decide p)) a b=some a:=by rw[gi h];rfl
theorem aqk{p:Prop}[Decidable p](a b:V)(h: ¬p):di (.bool (decide p)) a b=some b:=by rw[e3 h];rfl
theorem vC(k k':IntKind)(n:Int):mc k (.int k' n)=some (.int k (k.wrap n)):=by simp[mc,wH]
theorem bT{n:Int}(h: -9223372036854775808<=n)(h':n<=9223372036854775807):IntKind.i64.wrap n=n:=wrap64 h h'
theorem Bg{n:Int}(h:0<=n)(h':n<=18446744073709551615):IntKind.u64.wrap n=n:=by
 simp[IntKind.wrap,IntKind.bits,IntKind.signed];omega
theorem aqK(k:IntKind)(t:Option cb)(a b:Int)(h:0<=a)(h':0<b):bH .quo t (.int k a) (.int k b)=some (.int k (k.wrap (a / b))):=by
 rw[Mg _ _ _ _ D,Int.tdiv_eq_ediv_of_nonneg h]
theorem SD(k:IntKind)(t:Option cb)(a b:Int)(h:0<=a)(h':0<b):bH .rem t (.int k a) (.int k b)=some (.int k (a % b)):=by
 rw[SC _ _ _ _ D,Int.tmod_eq_emod_of_nonneg h]
theorem jO{body:(List V->S->ax)->List V->S->ax}(Q:ax->Prop)(I:Nat->List V->S->Prop)
  (step:∀a3 k vs s,I k vs s->(∀k' rZ s',k'<k->I k' rZ s'->Q (a3 rZ s'))->Q (body a3 vs s)):
  ∀n k vs s,I k vs s->k<n->Q (cT n body vs s)
 |0,_,_,_,_,h=>absurd h (Nat.not_lt_zero _)
 |n+1,k,vs,s,hi,hk=>step (cT n body) k vs s hi λk' rZ s' Z fw=>jO Q I step n k' rZ s' fw D
theorem ajP(v:V)(l:List V):dS 0 (.da (v::l))=some v:=rfl
theorem ajQ(u v:V)(l:List V):dS 1 (.da (u::v::l))=some v:=rfl
theorem ajR(u v w:V)(l:List V):dS 2 (.da (u::v::w::l))=some w:=rfl
def atom:V->Bool
 |.bool _=>true
 |.int _ _=>true
 |.str _=>true
 |.pB=>true
 |.AN=>true
 |.sE=>true
 |.sC=>true
 |.af=>true
 |.fs _ _=>true
 |.fu _=>true
 |.fn _ [] []=>true
 |_=>false
def a2:V->Bool
 |.agg cs=>cs.all atom
 |.da cs=>cs.all λv=>match v with
  |.agg cs=>cs.all atom
  |v=>atom v
 |v=>atom v
theorem yw{v:V}(h:atom v=true)(s:S)(n:Nat):fq s (n+1) v=some (v,[]):=by
 unfold atom at h;split at h<;>first|rfl|(cases h;done)
theorem yv(s:S)(n:Nat):∀ {l:List V},l.all atom=true->iy (fq s (n+1)) l=some (l,[])
 |[],_=>rfl
 |v::l,h=>by
  simp only[gS,dU]at h;simp only[iy,yw h.1,yv s n h.2,hd]
theorem Yv(s:S)(n:Nat){cs:List V}(h:cs.all atom=true):fq s (n+2) (.agg cs)=some (.agg cs,[]):=by
 show (match iy (fq s (n+1)) cs with
  |some (cs,bs)=>some (V.agg cs,bs)
  |none=>none)=_
 rw[yv s n h]
theorem akf(s:S)(n:Nat){v:V}(h:(match v with
  |.agg cs=>cs.all atom
  |v=>atom v)=true):fq s (n+2) v=some (v,[]):=by
 split at h;exact Yv s n h;exact yw h s (n+1)
theorem Yt(s:S)(n:Nat):∀ {l:List V},(l.all λv=>match v with
  |.agg cs=>cs.all atom
  |v=>atom v)=true->iy (fq s (n+2)) l=some (l,[])
 |[],_=>rfl
 |v::l,h=>by
  simp only[gS,dU]at h;simp only[iy,akf s n h.1,Yt s n h.2,hd]
theorem Py{v:V}(h:a2 v=true)(s:S):fq s 24 v=some (v,[]):=by
 unfold a2 at h;split at h;exact Yv s 22 h;rename_i cs;show (match iy (fq s 23) cs with
  |some (cs,bs)=>some (V.da cs,bs)
  |none=>none)=_
 rw[Yt s 21 h];exact yw h s 23
theorem Yr:∀ {l:List V} (s:S),l.all a2=true->nI l s=(l,[],s)
 |[],_,_=>rfl
 |v::l,s,h=>by
  simp only[gS,dU]at h;unfold nI;simp only[Py h.1,mark,Yr s h.2,hd]
theorem Co{K:Nat->Bool}{f:Nat}{l:List V}(s:S)(h:l.all a2=true):kG K f l s=(l,[],s):=by
 unfold kG;split;rfl;exact Yr s h
theorem s8{K:Nat->Bool}{f:Nat}(h:K f=false)(l:List V)(s:S):kG K f l s=nI l s:=by unfold kG;rw[h]
theorem OG{v:V}(h:a2 v=true):en v=false:=by
 unfold a2 at h;split at h;rfl;rfl;unfold atom at h;split at h<;>first|rfl|(cases h;done)
theorem zJ:∀ {l:List V},l.all a2=true->l.any en=false
 |[],_=>rfl
 |v::l,h=>by
  simp only[gS,dU]at h;simp only[D0,OG h.1,zJ h.2,Bool.or_self]
def km(cz:bt)(f:Nat)(args:List V)(v:V):Prop:= ∀s,s.ag=s.n->cz f args s=some (v,s)
theorem hh{cz:bt}{aP st:Bool}{f:Nat}{args:List V}{v:V}(aa:km cz f args v)(av:args.all a2=true){s:S}(ae:s.ag<=s.n):cJ cz aP st (.fn f [] []) args s=some (v,s):=by
 unfold cJ;rw[zJ av];simp only[hp,hd];rw[Co _ av];simp only[];rw[aa { s with ag:=s.n } rfl];have ai:qI aP st [] (Nat.ble s.n s.n)=true:=by
  have:Nat.ble s.n s.n=true:=by rw[eu];exact cg _
  rw[this];cases aP<;>cases st<;>rfl
 simp only[ai,least];rw[ny ae]
theorem r9{v:V}(h:en v=false){l:List (Option V)} :sY (some v::l)=(match sY l with
  |some l=>some (v::l)
  |none=>none):=by
 cases v<;>first|rfl|(cases h;done)
theorem Pp{s s':S}{vs:List V}{os:List (Option V)}(aE:sY os=some vs)(h:a2 (pI vs)=true)(J:s.n<=s.ag)(U:s.n<=s'.ag):bB s s' os=some (pI vs,s):=by
 unfold bB;rw[aE];simp only[];unfold packed;have aa:(Nat.ble s.n s.ag && Nat.ble s.n s'.ag)=true:=by simp only[dU,eu];exact ⟨J,U⟩
 simp only[aa];have al:pack s s' (pI vs)=rQ s s' (pI vs):=by
  unfold pack;split;rename_i b o l c z e;rw[e]at h;cases h;rfl
 rw[al];unfold rQ;rw[Py h];rfl
theorem e7{s s':S}{v:V}(h:a2 v=true)(J:s.n<=s.ag)(U:s.n<=s'.ag):bB s s' [some v]=some (v,s):=
 Pp (vs:=[v]) (by rw[r9 (OG h)];rfl) h J U
theorem Ev{v:V}(h:(match v with
  |.agg cs=>cs.all atom
  |v=>atom v)=true):en v=false:=by
 split at h;rfl;unfold atom at h;split at h<;>first|rfl|(cases h;done)
theorem xh{s s':S}{u v:V}(h:a2 (.da [u,v])=true)(J:s.n<=s.ag)(U:s.n<=s'.ag):bB s s' [some u,some v]=some (.da [u,v],s):=by
 have h':=h;simp only[a2,gS,pM,wP,dU]at h';exact Pp (vs:=[u,v]) (by rw[r9 (Ev h'.1),r9 (Ev h'.2)];rfl) h J U
theorem aj2{s s':S}{u v w:V}(h:a2 (.da [u,v,w])=true)(J:s.n<=s.ag)(U:s.n<=s'.ag):bB s s' [some u,some v,some w]=some (.da [u,v,w],s):=by
 have h':=h;simp only[a2,gS,pM,wP,dU]at h';exact Pp (vs:=[u,v,w]) (by rw[r9 (Ev h'.1),r9 (Ev h'.2.1),r9 (Ev h'.2.2)];rfl) h J U
theorem st:(∀(v:V) (k:V->ax),aF (some v) k=k v)∧(∀(v:V) (s:S) (k:V->S->ax),bZ (some (v,s)) k=k v s)∧(∀(v:V) (l:List V),nth (v::l) 0=v)∧(∀(v:V) (l:List V) (n:Nat),nth (v::l) (n+1)=nth l n)∧
  (∀a b:ax,aW (.bool true) a b=a)∧(∀a b:ax,aW (.bool false) a b=b)∧
  (∀(p:Prop) [Decidable p] (a b:ax),p->aW (.bool (decide p)) a b=a)∧(∀(p:Prop) [Decidable p] (a b:ax),¬p->aW (.bool (decide p)) a b=b)∧
  (∀(p:Prop) [Decidable p] (o:Option V),p->ic (.bool (decide p)) true o=o)∧(∀(p:Prop) [Decidable p] (o:Option V),¬p->ic (.bool (decide p)) true o=some (.da []))∧
  (∀(p:Prop) [Decidable p] (o:Option V),p->ic (.bool (decide p)) false o=some (.da []))∧(∀(p:Prop) [Decidable p] (o:Option V),¬p->ic (.bool (decide p)) false o=o)∧
  (∀(p:Prop) [Decidable p] (a b:V),p->di (.bool (decide p)) a b=some a)∧(∀(p:Prop) [Decidable p] (a b:V),¬p->di (.bool (decide p)) a b=some b)∧
  (∀(w:Bool) (o:Option V),ic (.da []) w o=some (.da []))∧(∀o:Option V,ic (.bool true) true o=o)∧(∀o:Option V,ic (.bool false) false o=o)∧(∀o:Option V,ic (.bool true) false o=some (.da []))∧(∀o:Option V,ic (.bool false) true o=some (.da []))∧
  (∀a b:V,di (.bool true) a b=some a)∧(∀a b:V,di (.bool false) a b=some b)∧
  (∀ [Decidable True],decide True=true)∧(∀ [Decidable False],decide False=false)∧(∀n:Nat,Int.toNat (n:Int)=n)∧Int.toNat 0=0∧Int.toNat 1=1∧
  (∀(v:V) (l:List V),dS 0 (.da (v::l))=some v)∧(∀(u v:V) (l:List V),dS 1 (.da (u::v::l))=some v)∧(∀(u v w:V) (l:List V),dS 2 (.da (u::v::w::l))=some w):=
 ⟨w8,js,AQ,AP,aiC,aiB,λ_ _=>Cc,λ_ _=>EJ,λ_ _=>akE,λ_ _=>akC,λ_ _=>akF,λ_ _=>akD,λ_ _=>aql,λ_ _=>aqk,λw o=>aks w o,akr,akm,akq,akn,aqh,aqg,(by intro _;exact gi trivial),(by intro _;exact e3 id),dZ,rfl,rfl,ajP,ajQ,ajR⟩
theorem bg(t:Option cb):(∀(k:IntKind) (a b:Int),bH .add t (.int k a) (.int k b)=some (.int k (k.wrap (a+b))))∧(∀(k:IntKind) (a b:Int),bH .sub t (.int k a) (.int k b)=some (.int k (k.wrap (a - b))))∧
  (∀(k:IntKind) (a b:Int),bH .mul t (.int k a) (.int k b)=some (.int k (k.wrap (a*b))))∧
  (∀(k:IntKind) (a b:Int),0<=a->0<b->bH .quo t (.int k a) (.int k b)=some (.int k (k.wrap (a / b))))∧(∀(k:IntKind) (a b:Int),0<=a->0<b->bH .rem t (.int k a) (.int k b)=some (.int k (a % b)))∧
  (∀(k:IntKind) (a b:Int),bH .lss t (.int k a) (.int k b)=some (.bool (decide (a<b))))∧(∀(k:IntKind) (a b:Int),bH .leq t (.int k a) (.int k b)=some (.bool (decide (a<=b))))∧
  (∀(k:IntKind) (a b:Int),bH .gtr t (.int k a) (.int k b)=some (.bool (decide (b<a))))∧(∀(k:IntKind) (a b:Int),bH .geq t (.int k a) (.int k b)=some (.bool (decide (b<=a))))∧
  (∀(k:IntKind) (a b:Int),bH .eql t (.int k a) (.int k b)=some (.bool (decide (a=b))))∧(∀(k:IntKind) (a b:Int),bH .neq t (.int k a) (.int k b)=some (.bool (decide (a≠b)))):=
 ⟨λk=>SA k t,λk=>aqL k t,λk=>aqI k t,λk=>aqK k t,λk=>SD k t,λk=>SB k t,λk=>aqH k t,λk=>aqG k t,λk=>aqF k t,λk=>aqE k t,λk=>aqJ k t⟩
inductive dz(z:Nat):V->Nat->List V->Prop
 |nil:dz z .af 0 []
 |mk (cs:List V) (l:Nat) (h:cs.length=l*z):dz z (.fs cs l) l cs
theorem dz.len{z:Nat}{v:V}{l:Nat}{cs:List V}(h:dz z v l cs):fP v=some (.int .i64 l):=by cases h<;>rfl
theorem dz.cells{z:Nat}{v:V}{l:Nat}{cs:List V}(h:dz z v l cs):cs.length=l*z:=by cases h with
 |nil=>simp
 |mk _ _ h=>exact h
theorem dz.atom{z:Nat}{v:V}{l:Nat}{cs:List V}(h:dz z v l cs):atom v=true:=by cases h<;>rfl
theorem dz.a2{z:Nat}{v:V}{l:Nat}{cs:List V}(h:dz z v l cs):a2 v=true:=by cases h<;>rfl
theorem dz.c1{z:Nat}{v:V}{l:Nat}{cs:List V}(h:dz z v l cs)(k:IntKind){i:Int}(aR:0<=i)(J:i<l):dW z v (.int k i)=some (.fu (cs.drop (i.toNat*z))):=by
 cases h with
 |nil=>omega
 |mk cs l h=>
  obtain ⟨n,rfl⟩:∃n:Nat,i=n:=⟨i.toNat,D⟩;have U:wb (n:Int) l=true:=by show Nat.blt n l=true;rw[gy];omega
  have aj:Nat.ble (n*z) cs.length=true:=by rw[eu,h];exact x6 _ D
  simp only[dW,U,dZ,uA,aj]
theorem RO{cs:List V}(s:S){n:Nat}(h:n<cs.length):cZ s (.fu (cs.drop n))=some (cs.getD n .bad):=by
 have J:cs.drop n=cs.getD n .bad::cs.drop (n+1):=by
  rw[TM h];simp[h]
 have U:takeN 1 (cs.getD n .bad::cs.drop (n+1))=some [cs.getD n .bad]:=by
  unfold takeN;have:Nat.ble 1 (cs.getD n .bad::cs.drop (n+1)).length=true:=by rw[eu];simp
  simp only[this];rfl
 unfold cZ rd;rw[J];simp only[U]
theorem LM{cs:List V}(s:S){n z:Nat}(h:n+z<=cs.length):bf z s (.fu (cs.drop n))=some (.agg ((cs.drop n).take z)):=by
 unfold bf rd takeN;have:Nat.ble z (cs.drop n).length=true:=by rw[eu,r2];omega
 simp only[this]
def bV(k:IntKind)(v:V)(l:List Int):Prop:=dz 1 v l.length (l.map (V.int k))
theorem bV.nil(k:IntKind):bV k .af []:=dz.nil
theorem bV.mk(k:IntKind)(l:List Int):bV k (.fs (l.map (V.int k)) l.length) l:=dz.mk _ _ (by simp)
theorem bV.len{k:IntKind}{v:V}{l:List Int}(h:bV k v l):fP v=some (.int .i64 l.length):=dz.len h
theorem bV.atom{k:IntKind}{v:V}{l:List Int}(h:bV k v l):atom v=true:=dz.atom h
theorem bV.a2{k:IntKind}{v:V}{l:List Int}(h:bV k v l):a2 v=true:=dz.a2 h
theorem bV.c1{k:IntKind}{v:V}{l:List Int}(h:bV k v l)(k':IntKind){i:Int}(aR:0<=i)(J:i<l.length):dW 1 v (.int k' i)=some (.fu ((l.map (V.int k)).drop i.toNat)):=by
 have:=dz.c1 h k' aR J
 rwa [ox]at this
theorem hb(k:IntKind)(l:List Int)(s:S){n:Nat}(h:n<l.length):cZ s (.fu ((l.map (V.int k)).drop n))=some (.int k (l.getD n 0)):=by
 rw[RO s (by simpa using h)];simp[h]
end
end Go.ah.X
namespace Go.ah.X
open Go Go.ah Go.Proofs.dI
section
def kH:Obj:=.cells [.fn 449 [] [],.fn 450 [] [],.fn 451 [] [],.fn 452 [] []] 204 false false
def dj:Obj:=.cells [.map 2] 318 false false
def dL:Obj:=.map [(.int .i64 0,.agg [.fn 453 [] [],.fn 228 [] []]),(.int .i64 1,.agg [.fn 454 [] [],.fn 455 [] []]),(.int .i64 2,.agg [.fn 456 [] [],.fn 457 [] []])] false
open Classical in
def Gk(args:List V)(s:S):Option V:=if args=[]∧s.h.get 0=some kH∧s.h.get 1=some dj∧s.h.get 2=some dL then some (.bool true) else none
def zD:bo:=λf=>match f with
 |21=>some Gk
 |_=>none
theorem cv{f:Nat}(h:f≠21):zD f=none:=by
 unfold zD;split;exact absurd rfl h;rfl
abbrev a9:bt:=mb zD funcs types
def oI(n m:Int):Int:=if n<0 then (-(n+1)) % m else n % m
theorem oN(n m:Int)(J: -9223372036854775808<=n)(U:n<=9223372036854775807)(aj:0<m)(aH:m<=9223372036854775807):km a9 9 [.int .i64 n,.int .i64 m] (.int .i64 (oI n m)):=λs ae=>
 (V1 (cv aS)).run 0 (by
  show Ja a9 0 (.int .i64 n) (.int .i64 m) s=_;unfold Ja;simp only[cw];by_cases h:n<0;simp (disch:=omega) only[eI,w8,Cc,SB,SA,G6,AQ,AP,bT,SD];rw[e7 rfl D D,oI,if_pos h,show (0 - (n+1))= -(n+1) by omega];simp (disch:=omega) only[eI,w8,EJ,SB,SA,G6,AQ,AP,bT,SD];rw[e7 rfl D D,oI,if_neg h]) D
theorem akG{a b:List Int}(h:a.length=b.length)(h':∀j,j<a.length->a.getD j 0=b.getD j 0):a=b:=by
 apply List.ext_getElem h;intro i J U;have:=h' i J;simpa [J,U] using this
end
end Go.ah.X
namespace Go.ah.X
open Go
def b4:V->List Nat
 |.bx b _ _ _ _=> [b]
 |_=> []
def fX(s s':S)(X:List Nat):Prop:=s.n<=s'.n∧ ∀c,c<s.n->c∉X->s'.h.get c=s.h.get c
theorem fX.refl(s:S)(X:List Nat):fX s s X:=⟨cg _,λ_ _ _=>rfl⟩
theorem dN.a1{ao s s':S}{b:Nat}{cs:List V}{e:Nat}{bw:Bool}{X:List Nat}(h:dN ao s b cs e bw)(hk:fX s s' X)(hx:b∉X):dN ao s' b cs e bw:=
 ⟨h.lo,r0 h.hi hk.1,by rw[hk.2 b h.hi hx];exact h.get⟩
inductive cl(ao s:S)(e z:Nat):V->Nat->List V->Prop
 |nil:cl ao s e z .af 0 []
 |cc (b l:Nat) (cs:List V) (bw:Bool) (h:dN ao s b cs e bw) (Z:cs.length=l*z):cl ao s e z (.bx b 0 l l z) l cs
theorem cl.a1{ao s s':S}{e z l:Nat}{v:V}{cs:List V}{X:List Nat}(h:cl ao s e z v l cs)(hk:fX s s' X)(hx:∀b,b∈b4 v->b∉X):cl ao s' e z v l cs:=by
 cases h with
 |nil=>exact .nil
 |cc b l cs bw h Z=>exact .cc b l cs bw (h.a1 hk (hx b (by simp[b4]))) Z
theorem cl.lo{ao s:S}{e z l:Nat}{v:V}{cs:List V}(h:cl ao s e z v l cs){b:Nat}(Y:b∈b4 v):ao.n<=b∧b<s.n:=by
 cases h with
 |nil=>cases Y
 |cc a4 l cs bw h Z=>simp only[b4,iu]at Y;subst Y;exact ⟨h.lo,h.hi⟩
theorem cl.cells{ao s:S}{e z l:Nat}{v:V}{cs:List V}(h:cl ao s e z v l cs):cs.length=l*z:=by
 cases h with
 |nil=>simp
 |cc b l cs bw h Z=>exact Z
theorem cl.len{ao s:S}{e z l:Nat}{v:V}{cs:List V}(h:cl ao s e z v l cs):fP v=some (.int .i64 l):=by cases h<;>rfl
theorem cl.bad{ao s:S}{e z l:Nat}{v:V}{cs:List V}(h:cl ao s e z v l cs):en v=false:=by cases h<;>rfl
theorem cl.str{ao s:S}{e z l:Nat}{v:V}{cs:List V}(h:cl ao s e z v l cs):∀t,v≠ .str t:=by cases h<;>simp
theorem AY{s:S}{b o n:Nat}{cs:List V}{e:Nat}{bw own:Bool}(h:s.h.get b=some (.cells cs e bw own))(a5:o+n<=cs.length):qh s b o n=some ((cs.drop o).take n):=by
 unfold qh;have:Nat.ble (o+n) cs.length=true:=by rw[eu];exact a5
 simp only[h,this]
theorem cl.items{ao s:S}{e z l:Nat}{v:V}{cs:List V}(h:cl ao s e z v l cs){te:cb}(aY:te.size=z){t:S}(aO:∀c,c∈b4 v->t.h.get c=s.h.get c):items te t v=some (l,cs):=by
 cases h with
 |nil=>rfl
 |cc b l cs bw h Z=>
  have J:qh t b 0 (l*te.size)=some cs:=by
   rw[AY (by rw[aO b (by simp[b4])];exact h.get) (by rw[aY];omega),aY,<-Z];simp
  show (match qh t b 0 (l*te.size) with
   |some k=>some (l,k)
   |none=>none)=_
  rw[J]
theorem dz.items{z l:Nat}{v:V}{cs:List V}(h:dz z v l cs){te:cb}(aY:te.size=z)(t:S):items te t v=some (l,cs):=by
 cases h with
 |nil=>rfl
 |mk cs l h=>
  have J:takeN (l*te.size) cs=some cs:=by
   unfold takeN;have:Nat.ble (l*te.size) cs.length=true:=by rw[eu,aY,h];exact cg _
   simp only[this];rw[aY,<-h];simp
  show (match takeN (l*te.size) cs with
   |some k=>some (l,k)
   |none=>none)=_
  rw[J]
theorem aj1{s:S}{v:V}(h:s.ag<=s.n):c6 s (some (v,aN s))=some (v,s):=by
 obtain ⟨a,n,w⟩:=s;simp only[c6,aN];rw[ny h]
theorem WW{ao s:S}{e z l n:Nat}{te:cb}{x y:V}{cs d:List V}(Z:Loc ao s)(hx:cl ao s e z x l cs)(xo:en y=false)(jx:∀t,y≠ .str t)(hi:items te (aN s) y=some (n,d))(ai:d.all bL=true)(fF:d.length=n*z)
  (ae:te.size=z) (Y:0<te.bytes) (hlen:(l+n)*te.bytes<=140737488355328):
  ∃v' s',c6 s (fD te e x y (aN s))=some (v',s')∧cl ao s' e z v' (l+n) (cs++d)∧Loc ao s'∧fX s s' (b4 x)∧(∀b,b∈b4 v'->b∈b4 x∨s.n<=b)∧
   ∃t',fD te e x y (aN s)=some (v',t')∧(t'.ag=s.n∨ ∀b,b∈b4 v'->s.n<=b):=by
 have aR:=Z.n;have J:=Z.eK;have U:=Z.ag;have alK:fD te e x y (aN s)=ko te e (aN s) x y:=by
  unfold fD;split;exact absurd rfl (jx _);unfold Eu;rw[hx.bad,xo];rfl
 rw[alK];cases n with
 |zero=>
  have Fv:d=[]:=by cases d with
   |nil=>rfl
   |cons _ _=>simp at fF
  subst Fv;have:ko te e (aN s) x y=some (x,aN s):=by
   unfold ko;rw[hi];cases hx with
   |nil=>rfl
   |cc b l cs bw h Z=>
    have:Nat.ble l l=true:=by rw[eu];exact cg _
    simp only[this]
  rw[this,aj1 U];exact ⟨x,s,rfl,by simpa using hx,Z,fX.refl _ _,λb Y=>.inl Y,_,rfl,.inl rfl⟩
 |succ n=>
  obtain ⟨h,N,w⟩:=s;simp only[]at aR J U;have ZF:∀t:S,c6 ⟨h,N,w⟩ (some (.bx N 0 (l+(n+1)) (l+(n+1)) z,t))=some (.bx N 0 (l+(n+1)) (l+(n+1)) z, { t with ag:=min w t.ag }):=λt=>rfl;have b5:∀(t:S) (pre:List V),fresh te e (n+1) l d pre t=some (.bx t.n 0 (l+(n+1)) (l+(n+1)) z,newObj t (.cells (pre++d) e true true)):=by
   intro t pre;have cy:Nat.ble ((l+(n+1))*te.bytes) 140737488355328=true:=by rw[eu];exact hlen
   have cm:Nat.blt 0 te.bytes=true:=by rw[gy];exact Y
   have dc:Nat.beq d.length ((n+1)*z)=true:=by rw[qV];exact fF
   unfold fresh;simp only[cy,cm,dc,ai,ae,Bool.and_self]
  cases hx with
  |nil=>
   have:ko te e (aN ⟨h,N,w⟩) .af y=some (.bx N 0 (0+(n+1)) (0+(n+1)) z,newObj (aN ⟨h,N,w⟩) (.cells d e true true)):=by
    unfold ko;rw[hi];exact b5 _ []
   rw[this];refine ⟨_,_,rfl,.cc N _ _ true ⟨by simpa using aR,by simp[newObj,aN],by simp only[newObj,aN];exact aJ.jV _ _ _⟩ (by simp[fF]),⟨by simp only[newObj,aN];omega,by simp only[newObj,aN];omega,by simp only[newObj,aN];omega⟩,
    ⟨by simp only[newObj,aN];omega,λc aa _=>by simp only[newObj,aN]at aa ⊢;rw[aJ.hj _ _ D]⟩,λb Y=>.inr (by simp[b4,aN]at Y;simp only[Y];omega),_,rfl,.inr λb Y=>(by simp[b4,aN]at Y;simp only[Y];omega)⟩
  |cc b l cs bw xq kb=>
   have z7:b<N:=xq.hi;have at7:=xq.lo;have t0:Nat.ble l l=true:=by rw[eu];exact cg _
   have t1:Nat.ble (l+(n+1)) l=false:=by
    cases hx:Nat.ble (l+(n+1)) l with
    |false=>rfl
    |true=>rw[eu]at hx;omega
   have au:(aN ⟨h,N,w⟩).h.get b=some (.cells cs e bw true):=xq.get;cases bw with
   |false=>
    have:ko te e (aN ⟨h,N,w⟩) (.bx b 0 l l z) y=some (.bx N 0 (l+(n+1)) (l+(n+1)) z,newObj (aN ⟨h,N,w⟩) (.cells (cs++d) e true true)):=by
     unfold ko;rw[hi];have dc:Nat.ble (0+l*te.size) cs.length=true:=by rw[eu,ae];omega
     simp only[t0,t1,au,dc];have dw:(cs.drop 0).take (l*te.size)=cs:=by rw[ae,<-kb];simp
     rw[dw];exact b5 _ cs
    rw[this];refine ⟨_,_,rfl,.cc N _ _ true ⟨by simpa using aR,by simp[newObj,aN],by simp only[newObj,aN];exact aJ.jV _ _ _⟩ (by rw[hZ,kb,fF,Nat.add_mul l]),⟨by simp only[newObj,aN];omega,by simp only[newObj,aN];omega,by simp only[newObj,aN];omega⟩,
     ⟨by simp only[newObj,aN];omega,λc aa _=>by simp only[newObj,aN]at aa ⊢;rw[aJ.hj _ _ D]⟩,λb Y=>.inr (by simp[b4,aN]at Y;simp only[Y];omega),_,rfl,.inr λb Y=>(by simp[b4,aN]at Y;simp only[Y];omega)⟩
   |true=>
    have:ko te e (aN ⟨h,N,w⟩) (.bx b 0 l l z) y=
      some (.bx N 0 (l+(n+1)) (l+(n+1)) z,newObj { aN ⟨h,N,w⟩ with h:=h.set b .dead,ag:=min N b } (.cells (cs++d) e true true)):=by
     unfold ko;rw[hi];have dc:(Nat.beq e e && Nat.beq 0 0 && Nat.beq (l*te.size) cs.length && Nat.beq l l)=true:=by
      rw[ae,<-kb];simp
     simp only[t0,t1,au,dc];rw[b5 _ cs];rfl
    rw[this];refine ⟨_,_,rfl,.cc N _ _ true ⟨by simpa using aR,by simp[newObj,aN],by simp only[newObj,aN];exact aJ.jV _ _ _⟩ (by rw[hZ,kb,fF,Nat.add_mul l]),⟨by simp only[newObj,aN];omega,by simp only[newObj,aN];omega,by simp only[newObj,aN];omega⟩,
     ⟨by simp only[newObj,aN];omega,λc aa alZ=>?_⟩,λb Y=>.inr (by simp[b4,aN]at Y;simp only[Y];omega),_,rfl,.inr λb Y=>(by simp[b4,aN]at Y;simp only[Y];omega)⟩
    simp only[newObj,aN]at aa ⊢;have n7:c≠b:=by simpa [b4] using alZ
    rw[aJ.hj _ _ D,aJ.hj _ _ n7]
theorem Jv{ao s:S}{e z l n:Nat}{te:cb}{x y:V}{cs d:List V}(Z:Loc ao s)(hx:cl ao s e z x l cs)(xo:en y=false)(jx:∀t,y≠ .str t)(hi:items te (aN s) y=some (n,d))(ai:d.all bL=true)(fF:d.length=n*z)
  (ae:te.size=z) (Y:0<te.bytes) (hlen:(l+n)*te.bytes<=140737488355328):
  ∃v' s',c6 s (fD te e x y (aN s))=some (v',s')∧cl ao s' e z v' (l+n) (cs++d)∧Loc ao s'∧fX s s' (b4 x)∧(∀b,b∈b4 v'->b∈b4 x∨s.n<=b):=
 let ⟨v',s',J,U,aj,aH,bD,_⟩:=WW Z hx xo jx hi ai fF ae Y hlen
 ⟨v',s',J,U,aj,aH,bD⟩
theorem ahl{ao s:S}{e z l n:Nat}{te:cb}{x y:V}{cs d:List V}(Z:Loc ao s)(hx:cl ao s e z x l cs)(aI:cl ao s e z y n d)(ai:d.all bL=true)
  (ae:te.size=z) (Y:0<te.bytes) (hlen:(l+n)*te.bytes<=140737488355328):
  ∃v' s',c6 s (fD te e x y (aN s))=some (v',s')∧cl ao s' e z v' (l+n) (cs++d)∧Loc ao s'∧fX s s' (b4 x)∧(∀b,b∈b4 v'->b∈b4 x∨s.n<=b):=
 Jv Z hx aI.bad aI.str (aI.items ae (λ_ _=>rfl)) ai aI.cells ae Y hlen
theorem Ju{ao s:S}{e z l n:Nat}{te:cb}{x y:V}{cs d:List V}(Z:Loc ao s)(hx:cl ao s e z x l cs)(aI:dz z y n d)(ai:d.all bL=true)
  (ae:te.size=z) (Y:0<te.bytes) (hlen:(l+n)*te.bytes<=140737488355328):
  ∃v' s',c6 s (fD te e x y (aN s))=some (v',s')∧cl ao s' e z v' (l+n) (cs++d)∧Loc ao s'∧fX s s' (b4 x)∧(∀b,b∈b4 v'->b∈b4 x∨s.n<=b):=
 Jv Z hx (by cases aI<;>rfl) (by cases aI<;>simp) (aI.items ae _) ai aI.cells ae Y hlen
theorem uq{ao s:S}{z len e:Nat}{ps:List (Nat×Nat×V)}{c l:List V}(Z:Loc ao s)(aM:bW c ps=some (.agg l))(aa:l.length=len*z):
  ∃v' s',c6 s (fl z len e c ps (aN s))=some (v',s')∧cl ao s' e z v' len l∧Loc ao s'∧fX s s' []∧(∀b,b∈b4 v'->s.n<=b):=by
 have aR:=Z.n;have J:=Z.eK;have U:=Z.ag;unfold fl;rw[aM];exact ⟨_,_,rfl,.cc s.n _ _ false ⟨aR,by simp[newObj,aN],by simp only[newObj,aN];exact aJ.jV _ _ _⟩ aa,⟨by simp only[newObj,aN];omega,by simp only[newObj,aN];omega,by simp only[newObj,aN];omega⟩,
  ⟨by simp only[newObj,aN];omega,λc aa _=>by simp only[newObj,aN];rw[aJ.hj _ _ D]⟩,λb Y=>by simp[b4,aN]at Y;omega⟩
inductive pQ(s:S):V->V->List Nat->Prop
 |at (v:V) (h:atom v=true):pQ s v v []
 |bx (b o l c z:Nat) (cs dg:List V) (e:Nat) (bw own:Bool) (au:s.h.get b=some (.cells cs e bw own)) (Z:l<=c) (E:o+l*z<=cs.length) (yK:(cs.drop o).take (l*z)=dg) (av:dg.all atom=true):pQ s (.bx b o l c z) (.fs dg l) (bif own then [b] else [])
inductive q3(s:S):List V->List V->List Nat->Prop
 |nil:q3 s [] [] []
 |cons (v v':V) (bs:List Nat) (l l':List V) (cs:List Nat) (h:pQ s v v' bs) (Z:q3 s l l' cs):q3 s (v::l) (v'::l') (bs++cs)
theorem q3.atoms{s:S} :∀ {l:List V},l.all atom=true->q3 s l l []
 |[],_=>.nil
 |v::l,h=>by
  simp only[gS,dU]at h;exact .cons v v [] l l [] (.at v h.1) (q3.atoms h.2)
theorem pQ.fq{s:S}{v v':V}{bs:List Nat}(h:pQ s v v' bs)(n:Nat):fq s (n+2) v=some (v',bs):=by
 cases h with
 | «at» v h=>exact yw h s (n+1)
 |bx b o l c z cs dg e bw own au Z E yK av=>
  have J:Nat.ble l c=true:=by rw[eu];exact Z
  show (match Nat.ble l c with
   |false=>none
   |true=>match qh s b o (l*z) with
    |none=>none
    |some cs=>match iy (X.fq s (n+1)) cs with
     |some (cs,bs)=>some (V.fs cs l,r8 s b bs)
     |none=>none)=_
  rw[J,AY au E];simp only[yK,yv s n av];unfold r8;rw[au];cases own<;>rfl
theorem q3.fq{s:S}{l l':List V}{bs:List Nat}(h:q3 s l l' bs)(n:Nat):iy (X.fq s (n+2)) l=some (l',bs):=by
 induction h with
 |nil=>rfl
 |cons v v' bs l l' cs h _ a3=>simp only[iy,h.fq n,a3]
inductive m0(s:S):V->V->List Nat->Prop
 |one (v v':V) (bs:List Nat) (h:pQ s v v' bs):m0 s v v' bs
 |agg (l l':List V) (bs:List Nat) (h:q3 s l l' bs):m0 s (.agg l) (.agg l') bs
 |nest (b o l c z:Nat) (cs dg Pb:List V) (e:Nat) (bw own:Bool) (bs:List Nat) (au:s.h.get b=some (.cells cs e bw own)) (Z:l<=c) (E:o+l*z<=cs.length) (yK:(cs.drop o).take (l*z)=dg) (av:q3 s dg Pb bs):m0 s (.bx b o l c z) (.fs Pb l) (r8 s b bs)
inductive zC(s:S):List V->List V->List Nat->Prop
 |nil:zC s [] [] []
 |cons (v v':V) (bs:List Nat) (l l':List V) (cs:List Nat) (h:m0 s v v' bs) (Z:zC s l l' cs):zC s (v::l) (v'::l') (bs++cs)
theorem m0.fq{s:S}{v v':V}{bs:List Nat}(h:m0 s v v' bs)(n:Nat):fq s (n+3) v=some (v',bs):=by
 cases h with
 |one v v' bs h=>exact h.fq (n+1)
 |agg l l' bs h=>
  show (match iy (X.fq s (n+2)) l with
   |some (cs,bs)=>some (V.agg cs,bs)
   |none=>none)=_
  rw[h.fq n]
 |nest b o l c z cs dg Pb e bw own bs au Z E yK av=>
  have J:Nat.ble l c=true:=by rw[eu];exact Z
  show (match Nat.ble l c with
   |false=>none
   |true=>match qh s b o (l*z) with
    |none=>none
    |some cs=>match iy (X.fq s (n+2)) cs with
     |some (cs,bs)=>some (V.fs cs l,r8 s b bs)
     |none=>none)=_
  rw[J,AY au E];simp only[yK,av.fq n]
theorem zC.fq{s:S}{l l':List V}{bs:List Nat}(h:zC s l l' bs)(n:Nat):iy (X.fq s (n+3)) l=some (l',bs):=by
 induction h with
 |nil=>rfl
 |cons v v' bs l l' cs h _ a3=>simp only[iy,h.fq n,a3]
theorem m0.bad{s:S}{v v':V}{bs:List Nat}(h:m0 s v v' bs):en v=false:=by
 cases h with
 |one v v' bs h=>cases h with
  | «at» v h=>unfold atom at h;split at h<;>first|rfl|(cases h;done)
  |bx=>rfl
 |agg=>rfl
 |nest=>rfl
theorem R8{n:Nat}{bs:List Nat}(h:∀b,b∈bs->n<=b):AO n bs=true:=by
 unfold AO;rw[fj];intro b Y;rw[eu];exact h b Y
theorem E4{s s':S}{l l':List V}{bs:List Nat}(h:q3 s' l l' bs)(J:s.ag=s.n)(Z:Loc s s')(Y:∀b,b∈bs->s.n<=b):bB s s' [some (.agg l)]=some (.agg l',s):=by
 unfold bB;show some (packed s s' (.agg l))=_;unfold packed;have aa:(Nat.ble s.n s.ag && Nat.ble s.n s'.ag)=true:=by simp only[dU,eu];exact ⟨D,Z.eK⟩
 simp only[aa];show some (match rQ s s' (.agg l) with
  |some r=>r
  |none=>(.agg l,s'))=_
 unfold rQ;rw[(m0.agg l l' bs h).fq 21];simp only[R8 Y]
theorem ahi{s:S}{l l':List V}{bs:List Nat}(h:zC s l l' bs):sY (l.map some)=some l:=by
 induction h with
 |nil=>rfl
 |cons v v' bs l l' cs h _ a3=>rw[jE,r9 h.bad,a3]
theorem E6{s s':S}{l l':List V}{bs:List Nat}(h:zC s' l l' bs)(a5:l.length≠1)(J:s.ag=s.n)(Z:Loc s s')(Y:∀b,b∈bs->s.n<=b):bB s s' (l.map some)=some (.da l',s):=by
 unfold bB;rw[ahi h];have aO:pI l=.da l:=by
  unfold pI;split;exact absurd rfl a5;rfl
 simp only[aO];unfold packed;have aa:(Nat.ble s.n s.ag && Nat.ble s.n s'.ag)=true:=by simp only[dU,eu];exact ⟨D,Z.eK⟩
 simp only[aa];show some (match rQ s s' (.da l) with
  |some r=>r
  |none=>(.da l,s'))=_
 unfold rQ;have:fq s' 24 (.da l)=some (.da l',bs):=by
  show (match iy (X.fq s' 23) l with
   |some (cs,bs)=>some (V.da cs,bs)
   |none=>none)=_
  rw[h.fq 20]
 rw[this];simp only[R8 Y]
theorem cl.gl{ao s:S}{e z l:Nat}{v:V}{cs:List V}(h:cl ao s e z v l cs)(av:cs.all atom=true):∃v' bs,pQ s v v' bs∧dz z v' l cs∧bs=b4 v:=by
 cases h with
 |nil=>exact ⟨_,_,.at _ rfl,.nil,rfl⟩
 |cc b l cs bw h Z=>exact ⟨_,_,.bx b 0 l l z cs cs e bw true h.get (cg _) D (by rw[<-Z];simp) av,.mk _ _ Z,rfl⟩
def pT(s:S)(e z l:Nat)(cs:List V)(r:ax):Prop:=(l=0∧cs=[]∧r=some (.af,s))∨ ∃bw,r=some (.bx s.n 0 l l z,newObj s (.cells cs e bw true))
theorem RH(s:S)(e z l:Nat)(cs:List V)(k:List V->S->ax)(c:(List V->S->ax)->ax):pT s e z l cs (aw k c)=pT s e z l cs (c k):=propext ⟨id,id⟩
theorem Cl{s s':S}{e z l:Nat}{v:V}{cs:List V}(J:s.ag=s.n)(Z:Loc s s')(h:cl s s' e z v l cs)(av:cs.all atom=true):pT s e z l cs (bB s s' [some v]):=by
 have aa:(Nat.ble s.n s.ag && Nat.ble s.n s'.ag)=true:=by simp only[dU,eu];exact ⟨D,Z.eK⟩
 cases h with
 |nil=>
  refine .inl ⟨rfl,rfl,?_⟩;unfold bB;show some (packed s s' .af)=_;unfold packed;simp only[aa];rfl
 |cc b l cs bw h dK=>
  refine .inr ⟨bw,?_⟩;unfold bB;show some (packed s s' (.bx b 0 l l z))=_;unfold packed;simp only[aa];have al:pack s s' (.bx b 0 l l z)=some (.bx s.n 0 l l z,newObj s (.cells cs e bw true)):=by
   have:Nat.ble s.n b=true:=by rw[eu];exact h.lo
   simp only[pack,h.get,yv s' 23 av,this,AO,R9,pM,Bool.and_self]
  rw[al]
def agX(cz:bt)(f:Nat)(args:List V)(e z l:Nat)(cs:List V):Prop:= ∀s,s.ag=s.n->pT s e z l cs (cz f args s)
theorem bz.runN{O:bo}{G:aJ Func}{T:Types}{f:Nat}{F:Fn}(nK:bz O G T f F)(n:Nat){args:List V}{s:S}{e z l:Nat}{cs:List V}(h:pT s e z l cs (F (mb O G T) n args s))(hw:s.ag<=s.n):pT s e z l cs (mb O G T f args s):=by
 rcases h with ⟨J,U,aj⟩|⟨bw,h⟩
 exact .inl ⟨J,U,nK.run n aj hw⟩;exact .inr ⟨bw,nK.run n h hw⟩
theorem RW:∀(bs:List Nat) (s:S),(mark bs s).n=s.n∧(mark bs s).ag=s.ag
 |[],_=>⟨rfl,rfl⟩
 |b::bs,s=>by
  unfold mark;split;exact RW bs _;exact RW bs s
theorem RX:∀(bs:List Nat) (s:S) (c:Nat),c∉bs->(mark bs s).h.get c=s.h.get c
 |[],_,_,_=>rfl
 |b::bs,s,c,h=>by
  simp only[hc,not_or]at h;unfold mark;split;rw[RX bs _ c h.2];simp only[];rw[aJ.hj _ _ h.1];exact RX bs s c h.2
def kY(s:S)(b:Nat)(cs:List V):Prop:= ∃e bw own,s.h.get b=some (.cells cs e bw own)
theorem RY:∀(bs:List Nat) (s:S) {c:Nat} {cs:List V},kY s c cs->kY (mark bs s) c cs
 |[],_,_,_,h=>h
 |b::bs,s,c,cs,h=>by
  unfold mark;split;rename_i cs' e bw own Y;refine RY bs _ ?_;by_cases aa:c=b;subst aa;obtain ⟨aZ,tO,ja,au⟩:=h;rw[Y]at au;cases au;exact ⟨_,_,_,aJ.jV _ _ _⟩;obtain ⟨aZ,tO,ja,au⟩:=h;exact ⟨aZ,tO,ja,by simp only[];rw[aJ.hj _ _ aa];exact au⟩;exact RY bs s h
inductive gz:S->List V->List V->List Nat->S->Prop
 |nil (s:S):gz s [] [] [] s
 |cons (s s':S) (v v':V) (bs:List Nat) (l l':List V) (cs:List Nat) (h:m0 s v v' bs) (Z:gz (mark bs s) l l' cs s'):gz s (v::l) (v'::l') (bs++cs) s'
theorem gz.run{s s':S}{l l':List V}{bs:List Nat}(h:gz s l l' bs s'):nI l s=(l',bs,s'):=by
 induction h with
 |nil=>rfl
 |cons s s' v v' bs l l' cs h _ a3=>
  unfold nI;simp only[h.fq 21,a3]
theorem gz.n{s s':S}{l l':List V}{bs:List Nat}(h:gz s l l' bs s'):s'.n=s.n∧s'.ag=s.ag:=by
 induction h with
 |nil=>exact ⟨rfl,rfl⟩
 |cons s s' v v' bs l l' cs h _ a3=>have:=RW bs s;exact ⟨a3.1.trans this.1,a3.2.trans this.2⟩
theorem gz.out{s s':S}{l l':List V}{bs:List Nat}(h:gz s l l' bs s'){c:Nat}(aa:c∉bs):s'.h.get c=s.h.get c:=by
 induction h with
 |nil=>rfl
 |cons s s' v v' bs l l' cs h _ a3=>
  simp only[mB,not_or]at aa;rw[a3 aa.2,RX _ _ _ aa.1]
theorem gz.rd{s s':S}{l l':List V}{bs:List Nat}(h:gz s l l' bs s'){c:Nat}{cs:List V}(aa:kY s c cs):kY s' c cs:=by
 induction h with
 |nil=>exact aa
 |cons s s' v v' bs l l' cs h _ a3=>exact a3 (RY _ _ aa)
theorem gz.bad{s s':S}{l l':List V}{bs:List Nat}(h:gz s l l' bs s'):l.any en=false:=by
 induction h with
 |nil=>rfl
 |cons s s' v v' bs l l' cs h _ a3=>rw[D0,h.bad,a3];rfl
theorem gz.atoms(s:S):∀ {l:List V},l.all (λv=>match v with
  |.agg cs=>cs.all atom
  |v=>atom v)=true->gz s l l [] s
 |[],_=>.nil s
 |v::l,h=>by
  simp only[gS,dU]at h;refine .cons s s v v [] l l [] ?_ (gz.atoms s h.2);have J:=h.1;split at J;exact .agg _ _ _ (q3.atoms J);exact .one _ _ _ (.at _ J)
theorem tF{n:Nat} :∀ {bs:List Nat} {m:Nat},(∀b,b∈bs->n<=b)->n<=m->n<=least bs m
 |[],_,_,h=>h
 |b::bs,m,h,h'=>by
  have:=h b (j5 ..);exact tF (bs:=bs) (λc aa=>h c (lG _ aa)) D
theorem u1{bs:List Nat}{m:Nat} :least bs m<=m:=(least_le bs m).1
theorem OU{cz:bt}{aP st:Bool}{f:Nat}{args args':List V}{bs:List Nat}{ao s bc:S}{e z l:Nat}{cs:List V}(Z:Loc ao s)(av:gz (aN s) args args' bs bc)(Y:∀b,b∈bs->ao.n<=b)(ai:st=true->aP=true->bs=[])(aa:pT bc e z l cs (cz f args' bc))(iK:cs.length=l*z)(hk:dT f=false:=by rfl):
  ∃v s',cJ cz aP st (.fn f [] []) args s=some (v,s')∧cl ao s' e z v l cs∧Loc ao s'∧fX s s' bs∧(∀b,b∈b4 v->s.n<=b)∧ ∀c cs,kY s c cs->c<s.n->kY s' c cs:=by
 have aR:=Z.n;have J:=Z.eK;have U:=Z.ag;have a5:=av.n;have gg:bc.n=s.n:=a5.1;have ml:bc.ag=s.n:=a5.2;unfold cJ;rw[av.bad];simp only[hp,hd];have E:kG dT f args { s with ag:=s.n } =(args',bs,bc):=(s8 hk _ _).trans av.run;rw[E];simp only[];have hw:bc.ag=bc.n:=D;have cK:∀m,m=s.n->qI aP st bs (Nat.ble s.n m)=true:=by
  intro m hm;have:Nat.ble s.n m=true:=by rw[eu,hm];exact cg _
  rw[this];cases aP with
  |false=>rfl
  |true=>cases st with
   |false=>rfl
   |true=>rw[ai rfl rfl];rfl
 rcases aa with ⟨rfl,rfl,h⟩|⟨bw,h⟩
 rw[h];simp only[cK _ ml];exact ⟨_,_,rfl,.nil,⟨by simp only[gg];exact aR,tF Y D,gb u1 (by simp only[gg];omega)⟩,⟨by simp only[gg];omega,λc _ aa=>av.out aa⟩,λb Y=>(by simp[b4]at Y),λc cs iK _=>av.rd iK⟩;rw[h];simp only[newObj,cK _ ml];refine ⟨_,_,rfl,.cc _ _ _ bw ⟨D,by simp only[];omega,by simp only[];exact aJ.jV _ _ _⟩ iK,⟨by simp only[gg];omega,tF Y D,gb u1 (by simp only[gg];omega)⟩,⟨by simp only[gg];omega,λc b6 aa=>?_⟩,λb Y=>by simp[b4]at Y;omega,λc cs iK b6=>?_⟩;simp only[];rw[aJ.hj _ _ D];exact av.out aa;obtain ⟨aZ,tO,ja,au⟩:=av.rd iK;exact ⟨aZ,tO,ja,by simp only[];rw[aJ.hj _ _ D];exact au⟩
def ep(v:V):Bool:=match v with
 |.agg cs=>cs.all atom
 |v=>atom v
theorem gz.q8(s:S){l:List V}(h:l.all ep=true):gz s l l [] s:=gz.atoms s h
def h6(cz:bt)(f:Nat)(args:List V)(P:V->Prop):Prop:= ∀s,s.ag=s.n-> ∃v,P v∧cz f args s=some (v,s)
theorem hI{cz:bt}{aP st:Bool}{f:Nat}{args:List V}{P:V->Prop}(aa:h6 cz f args P)(av:args.all a2=true){s:S}(ae:s.ag<=s.n):∃v,P v∧cJ cz aP st (.fn f [] []) args s=some (v,s):=by
 obtain ⟨v,ad,h⟩:=aa (aN s) rfl;refine ⟨v,ad,?_⟩;unfold cJ;rw[zJ av];simp only[hp,hd];rw[Co _ av];simp only[];have h':cz f args { s with ag:=s.n } =some (v,aN s):=h;rw[h'];have ai:qI aP st [] (Nat.ble s.n (aN s).ag)=true:=by
  have:Nat.ble s.n (aN s).ag=true:=by rw[eu];exact cg _
  rw[this];cases aP<;>cases st<;>rfl
 simp only[ai,least];simp only[aN];rw[ny ae]
theorem J5{z d:V}(ai:bL d=true):bW (cC 1 [z]) [(0,1,d)]=some (.agg [d]):=by
 have ad:eJ d=[d]:=by cases d<;>first|rfl|(cases ai;done)
 have Y:d≠ .bad:=by rintro rfl;cases ai
 unfold bW;split;exact absurd rfl Y;rw[ad];rfl
theorem BX{ao s:S}{e z l:Nat}{te:cb}{x:V}{cs d c:List V}{ps:List (Nat×Nat×V)}(Z:Loc ao s)(hx:cl ao s e z x l cs)(aM:bW c ps=some (.agg d))(fF:d.length=z)(ai:d.all bL=true)(ae:te.size=z)(Y:0<te.bytes)(hlen:(l+1)*te.bytes<=140737488355328):
  ∃v' s',(∀K:V->S->ax,(bZ (c6 s (fl z 1 e c ps (aN s))) λmy bc=>bZ (c6 bc (fD te e x my (aN bc))) K)=K v' s')∧
   cl ao s' e z v' (l+1) (cs++d)∧Loc ao s'∧fX s s' (b4 x)∧(∀b,b∈b4 v'->b∈b4 x∨s.n<=b):=by
 obtain ⟨v1,s1,aC,dm,bk,aB,bb⟩:=uq (e:=e) Z aM (by rw[fF,Nat.one_mul]:d.length=1*z);have Lq:=hx.a1 aB (λb _=>by simp);obtain ⟨v2,s2,ba,fg,cn,aT,bU⟩:=ahl bk Lq dm ai ae Y hlen;refine ⟨v2,s2,λK=>by rw[aC,js,ba,js],fg,cn,⟨gb aB.1 aT.1,λc aa hx=>?_⟩,λb Y=>(bU b Y).imp id λh=>gb aB.1 h⟩;rw[aT.2 c (r0 aa aB.1) hx,aB.2 c aa (by simp)]
theorem Jt{ao s:S}{e l:Nat}{te:cb}{x z d:V}{cs:List V}(Z:Loc ao s)(hx:cl ao s e 1 x l cs)(ai:bL d=true)(ae:te.size=1)(Y:0<te.bytes)(hlen:(l+1)*te.bytes<=140737488355328):
  ∃v' s',(∀K:V->S->ax,(bZ (c6 s (fl 1 1 e (cC 1 [z]) [(0,1,d)] (aN s))) λmy bc=>bZ (c6 bc (fD te e x my (aN bc))) K)=K v' s')∧
   cl ao s' e 1 v' (l+1) (cs++ [d])∧Loc ao s'∧fX s s' (b4 x)∧(∀b,b∈b4 v'->b∈b4 x∨s.n<=b):=
 BX Z hx (J5 ai) rfl (by simp[ai]) ae Y hlen
theorem nk{s:S}{b j:Nat}{cs:List V}(h:kY s b cs)(aG:j<cs.length):cZ s (.ptr b j)=some (cs.getD j .bad):=by
 obtain ⟨e,bw,own,au⟩:=h;have J:(cs.drop j).take 1=[cs.getD j .bad]:=by
  rw[TM aG,List.take_succ_cons,sP];simp[aG]
 unfold cZ rd;simp only[AY au (show j+1<=cs.length by omega),J]
theorem px{b o l c mW z:Nat}(k:IntKind){i:Int}(aR:0<=i)(J:i<l):dW z (.bx b o l c mW) (.int k i)=some (.ptr b (o+i.toNat*z)):=by
 obtain ⟨n,rfl⟩:∃n:Nat,i=n:=⟨i.toNat,D⟩;have U:wb (n:Int) l=true:=by show Nat.blt n l=true;rw[gy];omega
 simp only[dW,U,dZ]
theorem dN.rd{ao s:S}{b:Nat}{cs:List V}{e:Nat}{bw:Bool}(h:dN ao s b cs e bw):kY s b cs:=⟨e,bw,true,h.get⟩
theorem cl.at{ao s:S}{e l:Nat}{v:V}{cs:List V}(h:cl ao s e 1 v l cs)(k:IntKind){i:Int}(aR:0<=i)(J:i<l):∃p,dW 1 v (.int k i)=some p∧cZ s p=some (cs.getD i.toNat .bad):=by
 cases h with
 |nil=>omega
 |cc b l cs bw h Z=>
  refine ⟨_,px k aR J,?_⟩;rw[gD,ox];exact nk h.rd D
abbrev fp(l:List Int):List V:=l.map (V.int .i64)
theorem lR(k:IntKind):∀l:List Int,(l.map (V.int k)).all atom=true
 |[]=>rfl
 |_::l=>by simp only[jE,gS,lR k l];rfl
theorem Lv(k:IntKind):∀l:List Int,(l.map (V.int k)).all bL=true
 |[]=>rfl
 |_::l=>by simp only[jE,gS,Lv k l];rfl
theorem C4(k:IntKind){l:List Int}{i:Nat}(h:i<l.length):(l.map (V.int k)).getD i .bad=.int k (l.getD i 0):=by simp[h]
def EM(m:Nat):List Int:=if h:m=0 then [] else ((m % 256:Nat):Int)::EM (m / 256)
termination_by m
decreasing_by omega
theorem PD{α:Type}(l:List α)(z:α){i:Nat}(h:i<l.length):l.getD i z∈l:=by
 have:l.getD i z=l[i]:=by simp[h]
 rw[this];exact tX h
def ez(n:Int):Prop:= -9223372036854775808<=n∧n<=9223372036854775807
theorem ET{α:Type}(l:List α)(z:α){i:Nat}(h:i<l.length):l.drop i=l.getD i z::l.drop (i+1):=by
 rw[TM h];simp[h]
theorem ur{k:IntKind}{i:Int}{m d:Nat}(h:0<=i)(h':i<=m):bound (some (.int k i)) m d=some i.toNat:=by
 simp only[bound];rw[if_pos ⟨h,h'⟩]
theorem dz.bx{z:Nat}{v:V}{l:Nat}{cs:List V}(h:dz z v l cs){k k':IntKind}{lo hi:Int}(aR:0<=lo)(J:lo<=hi)(U:hi<=l):∃w,jn z v (some (.int k lo)) (some (.int k' hi)) none=some w∧dz z w (hi.toNat - lo.toNat) ((cs.take (hi.toNat*z)).drop (lo.toNat*z)):=by
 cases h with
 |nil=>
  refine ⟨.af,?_,?_⟩;unfold jn;have aC:bound (some (.int k' hi)) 0 0=some hi.toNat:=ur D U;have ba:bound (some (.int k lo)) hi.toNat 0=some lo.toNat:=ur aR D;have cd:Nat.ble hi.toNat 0=true:=by rw[eu];omega
  simp only[show bound none 0 0=some 0 from rfl,aC,ba,cd];rw[show hi.toNat - lo.toNat=0 by omega,List.take_nil,List.drop_nil];exact .nil
 |mk cs l aa=>
  refine ⟨.fs ((cs.take (hi.toNat*z)).drop (lo.toNat*z)) (hi.toNat - lo.toNat),?_,.mk _ _ ?_⟩;have aC:bound (some (.int k' hi)) l l=some hi.toNat:=ur D U;have ba:bound (some (.int k lo)) hi.toNat 0=some lo.toNat:=ur aR D;have cd:(Nat.ble hi.toNat l && Nat.ble (hi.toNat*z) cs.length)=true:=by
   rw[dU,eu,eu,aa];exact ⟨D,x6 _ D⟩
  simp only[jn,wB,show bound none l l=some l from rfl,aC,ba,cd];rw[r2,kV,aa,ny (x6 _ D),Nat.sub_mul]
theorem ary{z:Nat}{v hi:V}{k:IntKind} :jn z v (some (.int k 0)) (some hi) none=jn z v none (some hi) none:=by
 have Y:∀m,bound (some (.int k 0)) m 0=bound none m 0:=λm=>by
  rw[ur D D];rfl
 cases v<;>simp only[jn,wB,Y]
theorem bV.bx{k:IntKind}{v:V}{l:List Int}(h:bV k v l){q q':IntKind}{lo hi:Int}(aR:0<=lo)(J:lo<=hi)(U:hi<=l.length):∃w,jn 1 v (some (.int q lo)) (some (.int q' hi)) none=some w∧bV k w ((l.take hi.toNat).drop lo.toNat):=by
 obtain ⟨w,e,f⟩:=dz.bx h (k:=q) (k':=q') aR J U;refine ⟨w,e,?_⟩;unfold bV;rw[ox,ox,<-List.map_take,<-List.map_drop]at f;have:((l.take hi.toNat).drop lo.toNat).length=hi.toNat - lo.toNat:=by rw[r2,kV];omega
 rw[this];exact f
theorem bV.arv{k:IntKind}{v:V}{l:List Int}(h:bV k v l){q':IntKind}{hi:Int}(J:0<=hi)(U:hi<=l.length):∃w,jn 1 v none (some (.int q' hi)) none=some w∧bV k w (l.take hi.toNat):=by
 obtain ⟨w,e,f⟩:=h.bx (q:=.i64) (q':=q') (lo:=0) D J U;rw[ary]at e;exact ⟨w,e,by simpa using f⟩
def jP:List Int->Int
 |[]=>0
 |d::l=>d+256*jP l
def bytes(b:List Int):Prop:= ∀x,x∈b->0<=x∧x<=255
def aL(m:Nat):List Int:=if h:m=0 then [] else ((m % 1000000000:Nat):Int)::aL (m / 1000000000)
termination_by m
decreasing_by omega
theorem xj{α:Type}(l:List α)(z:α){i:Nat}(h:l.length<=i):l.getD i z=z:=by simp[h]
theorem jm:aL 0=[]:=by unfold aL;simp
theorem tJ{m:Nat}(h:m≠0):aL m=((m % 1000000000:Nat):Int)::aL (m / 1000000000):=by rw[aL];simp[h]
def a0:List Int->Int
 |[]=>0
 |d::l=>d+1000000000*a0 l
def ea(l:List Int):Prop:= ∀x,x∈l->0<=x∧x<1000000000
theorem EN:ea []:=λ_ h=>by cases h
theorem O3{d:Int}{l:List Int}(h:0<=d∧d<1000000000)(Z:ea l):ea (d::l):=λx hx=>(hc.1 hx).elim (λe=>e ▸ h) (Z x)
theorem O4{d:Int}{l:List Int}(h:ea (d::l)):(0<=d∧d<1000000000)∧ea l:=⟨h d (j5 ..),λx hx=>h x (lG _ hx)⟩
theorem JV{a b:List Int}(av:ea a)(Y:ea b):ea (a++b):=λx hx=>(mB.1 hx).elim (av x) (Y x)
theorem vF{l:List Int}(n:Nat)(h:ea l):ea (l.take n):=λx hx=>h x (M0 hx)
theorem zS{l:List Int}(n:Nat)(h:ea l):ea (l.drop n):=λx hx=>h x (List.mem_of_mem_drop hx)
theorem EO{d:Int}(h:0<=d∧d<1000000000):ea [d]:=O3 h EN
theorem jt{l:List Int}(h:ea l)(i:Nat):0<=l.getD i 0∧l.getD i 0<1000000000:=by
 by_cases hi:i<l.length;exact h _ (PD l 0 hi);rw[xj _ _ D];omega
theorem xd{l:List Int}(h:ea l)(i:Nat){x:Int}(hx:0<=x∧x<1000000000):ea (l.set i x):=λy aI=>(M1 aI).elim (h y) (λe=>e ▸ hx)
theorem EP(n:Nat):ea (List.replicate n 0):=λx hx=>by have:=List.eq_of_mem_replicate hx;omega
theorem abL:∀(n m:Nat),m<=n->ea (aL m)
 |n,m,hm=>by
  by_cases h:m=0;subst h;rw[jm];exact EN;rw[tJ h];cases n with
  |zero=>omega
  |succ n=>exact O3 D (abL n _ D)
theorem gK(m:Nat):ea (aL m):=abL m m (cg _)
theorem ad2:∀(n m:Nat),m<=n->a0 (aL m)=m
 |n,m,hm=>by
  by_cases h:m=0;subst h;rw[jm];rfl;rw[tJ h];cases n with
  |zero=>omega
  |succ n=>rw[a0,ad2 n _ D];omega
theorem gq(m:Nat):a0 (aL m)=m:=ad2 m m (cg _)
theorem nw:∀ {l:List Int},ea l->0<=a0 l
 |[],_=>by simp[a0]
 |d::l,h=>by have h':=O4 h;have:=nw h'.2;simp only[a0];omega
def ck(n:Nat):Int:=1000000000 ^ n
theorem OI:ck 0=1:=rfl
theorem sb(n:Nat):ck (n+1)=1000000000*ck n:=by unfold ck;rw[Int.pow_succ,oA]
theorem l9(n:Nat):1<=ck n:=by
 have:0<ck n:=Int.pow_pos D;omega
theorem ym(m n:Nat):ck (m+n)=ck m*ck n:=Int.pow_add ..
theorem ou:∀ {l:List Int},ea l->a0 l<ck l.length
 |[],_=>by simp[a0,OI]
 |d::l,h=>by
  have h':=O4 h;have:=ou h'.2;simp only[a0,qW,sb];omega
theorem MN:∀(a b:List Int),a0 (a++b)=a0 a+ck a.length*a0 b
 |[],b=>by simp[a0,OI]
 |d::a,b=>by
  simp only[sQ,a0,MN a b,qW,sb]
  grind
theorem qT(l:List Int)(i:Nat):a0 (l.take (i+1))=a0 (l.take i)+ck i*l.getD i 0:=by
 by_cases hi:i<l.length;have:l.take (i+1)=l.take i++ [l.getD i 0]:=by rw[List.take_add_one];simp[hi]
 rw[this,MN,kV,ny D];simp[a0];rw[l2 D,l2 D,xj _ _ D];omega
theorem rW(l:List Int)(i:Nat)(h:i<=l.length):a0 l=a0 (l.take i)+ck i*a0 (l.drop i):=by
 have:=MN (l.take i) (l.drop i);rw[List.take_append_drop,kV,ny h]at this;exact this
theorem mU(l:List Int){i:Nat}(h:i<l.length):a0 (l.drop i)=l.getD i 0+1000000000*a0 (l.drop (i+1)):=by
 rw[ET l 0 h];rfl
theorem Tr(n:Nat):a0 (List.replicate n 0)=0:=by
 induction n with
 |zero=>rfl
 |succ n a3=>rw[List.replicate_succ,a0,a3];rfl
theorem rX:∀(l:List Int) (j:Nat) (x:Int),j<l.length->a0 (l.set j x)=a0 l+ck j*(x - l.getD j 0)
 |[],j,x,h=>by simp at h
 |d::l,0,x,_=>by simp[a0,OI];omega
 |d::l,j+1,x,h=>by
  have:=rX l j x (by simpa using h);simp only[List.set_cons_succ,a0,this,sb,List.getD_cons_succ]
  grind
theorem ad3(l:List Int)(d:Int):a0 (l++ [d])=a0 l+ck l.length*d:=by rw[MN];simp[a0]
def trim(l:List Int):Prop:=l≠ []->l.getD (l.length - 1) 0≠0
theorem asm{d:Int}{l:List Int}(h:trim (d::l)):trim l:=λZ=>by
 have:=h (by simp);cases l with
 |nil=>exact absurd rfl Z
 |cons e l=>simpa using this
theorem AL{m:Nat}(h:m≠0):aL m≠ []:=by rw[tJ h];simp
theorem R6:∀ {l:List Int},ea l->trim l->aL (a0 l).toNat=l
 |[],_,_=>jm
 |d::l,h,aO=>by
  have h':=O4 h;have a3:=R6 h'.2 (asm aO);have a5:=nw h'.2;have ey:a0 (d::l)≠0:=by
   simp only[a0];cases l with
   |nil=>have:=aO (by simp);simp[a0]at this ⊢;exact this
   |cons e l=>
    have:(a0 (e::l)).toNat≠0:=by
     intro aR;rw[aR,jm]at a3;cases a3
    omega
  have al:0<=a0 (d::l):=nw h;rw[tJ D];simp only[a0]at al ey ⊢;have aC:(d+1000000000*a0 l).toNat % 1000000000=d.toNat:=D;have ba:(d+1000000000*a0 l).toNat / 1000000000=(a0 l).toNat:=D;rw[aC,ba,a3];congr 1;omega
theorem abO(m:Nat):trim (aL m):=by
 suffices ∀n m,m<=n->trim (aL m) from this m m (cg _)
 intro n
 induction n with
 |zero=>
  intro m hm;have:m=0:=D;subst this;rw[jm];exact λh=>absurd rfl h
 |succ n a3=>
  intro m hm;by_cases h:m=0;subst h;rw[jm];exact λh=>absurd rfl h;intro _;rw[tJ h];by_cases J:m / 1000000000=0;rw[J,jm];simp;omega;have:=a3 (m / 1000000000) D (AL J);have Z:0<(aL (m / 1000000000)).length:=Hn.2 (AL J);rw[qW,Nat.add_sub_cancel,show (aL (m / 1000000000)).length=(aL (m / 1000000000)).length - 1+1 by omega,List.getD_cons_succ];exact this
theorem apg{l:List Int}(h:ea l){n:Nat}(a5:n<=l.length)(ad:a0 (l.take n)=a0 l)(aO:n=0∨l.getD (n - 1) 0≠0):aL (a0 l).toNat=l.take n:=by
 rw[<-ad];refine R6 (vF n h) λey=>?_;have sm:n≠0:=by rintro rfl;simp at ey
 rw[kV,ny a5];have:(l.take n).getD (n - 1) 0=l.getD (n - 1) 0:=by
  simp[ir,Bs,show n - 1<n by omega]
 rw[this];exact aO.resolve_left sm
theorem Gu{x y:Nat}(h:(aL x).length<(aL y).length):x<y:=by
 have J:=ou (gK x);rw[gq]at J;have aI:0<(aL y).length:=D;have U:=rW (aL y) ((aL y).length - 1) D;have aj:=mU (aL y) (i:=(aL y).length - 1) D;have aH:=abO y (List.ne_nil_of_length_pos aI);have bD:=jt (gK y) ((aL y).length - 1);have cF:=nw (vF ((aL y).length - 1) (gK y));rw[pb (show (aL y).length<=(aL y).length - 1+1 by omega)]at aj;rw[gq]at U;have dV:ck (aL x).length<=ck ((aL y).length - 1):=by
  obtain ⟨k,hk⟩:∃k,(aL y).length - 1=(aL x).length+k:=⟨(aL y).length - 1 - (aL x).length,D⟩;rw[hk,ym];have a:=l9 (aL x).length;have b:=l9 k
  calc ck (aL x).length=ck (aL x).length*1:=D
   _<=_:=nz b D
 have fL:ck ((aL y).length - 1)*1<=ck ((aL y).length - 1)*a0 ((aL y).drop ((aL y).length - 1)):=nz (by rw[aj];simp only[a0];omega) (by have:=l9 ((aL y).length - 1);omega);omega
theorem JQ{a b:List Int}(Z:a.length=b.length)(av:ea a)(Y:ea b){i:Nat}(hi:i<a.length)(he:a.drop (i+1)=b.drop (i+1))(b6:a.getD i 0<b.getD i 0):a0 a<a0 b:=by
 rw[rW a i D,rW b i D,mU a hi,mU b D,he];have J:=ou (vF i av);have U:=nw (vF i Y);rw[kV,ny D]at J;have aj:ck i*(a.getD i 0+1000000000*a0 (b.drop (i+1))+1)<=ck i*(b.getD i 0+1000000000*a0 (b.drop (i+1))):=nz D (by have:=l9 i;omega);rw[qZ _ _ 1,Int.mul_one]at aj;omega
def e8(x y:Int):Int:=if x<y then -1 else if y<x then 1 else 0
theorem SW(cs:List V){j:Nat}(x:V)(h:j<cs.length):gp cs j [x]=cs.set j x:=by
 unfold gp;rw[List.set_eq_take_append_cons_drop,if_pos h];rfl
theorem MS{s:S}{b j:Nat}{cs l:List V}{e:Nat}{bw:Bool}(h:s.h.get b=some (.cells cs e bw true))(aG:j+l.length<=cs.length)(hx:l.all bL=true):
  ow s b j l=some { s with h:=s.h.set b (.cells (gp cs j l) e bw true),ag:=min s.ag b } :=by
 have J:(Nat.ble (j+l.length) cs.length && l.all bL)=true:=by
  rw[dU,eu];exact ⟨aG,hx⟩
 unfold ow;simp only[h,J]
theorem dN.write{ao s:S}{b j:Nat}{cs l:List V}{e:Nat}{bw:Bool}(Z:Loc ao s)(h:dN ao s b cs e bw)(aG:j+l.length<=cs.length)(hx:l.all bL=true):
  ∃s',(∀v,c6 s (match ow (aN s) b j l with
   |some t=>some (v,t)
   |none=>none)=some (v,s'))∧dN ao s' b (gp cs j l) e bw∧Loc ao s'∧fX s s' [b]∧s'.n=s.n:=by
 have aR:=Z.n;have J:=Z.eK;have U:=Z.ag;have Y:=h.lo;have ft:=h.hi;rw[MS (s:=aN s) h.get aG hx];refine ⟨_,λv=>rfl,⟨h.lo,h.hi,?_⟩,⟨aR,?_,?_⟩,⟨cg _,λc _ aa=>?_⟩,rfl⟩;simp only[aN];exact aJ.jV _ _ _;simp only[aN];omega;simp only[aN];omega;simp only[aN];rw[aJ.hj _ _ (by simpa using aa)]
theorem S5{s:S}{b j:Nat}{x:V}(hx:bL x=true):ef 1 (.ptr b j) x s=match ow s b j [x] with
  |some t=>some (.bad,t)
  |none=>none:=by
 cases x<;>first|rfl|(cases hx;done)
theorem cl.put{ao s:S}{e l:Nat}{v:V}{cs:List V}(Z:Loc ao s)(h:cl ao s e 1 v l cs)(k:IntKind){i:Int}(aR:0<=i)(J:i<l){x:V}(hx:bL x=true):
  ∃p s',dW 1 v (.int k i)=some p∧c6 s (ef 1 p x (aN s))=some (.bad,s')∧cl ao s' e 1 v l (cs.set i.toNat x)∧Loc ao s'∧fX s s' (b4 v):=by
 cases h with
 |nil=>omega
 |cc b l cs bw h aa=>
  obtain ⟨s',aC,bb,bk,aB,_⟩:=h.write Z (j:=i.toNat) (l:=[x]) (by simp;omega) (by simp[hx]);refine ⟨_,s',px k aR J,?_,?_,bk,aB⟩;rw[gD,ox,S5 hx];exact aC _;rw[SW _ _ D]at bb;exact .cc b l _ bw bb (by simpa using aa)
theorem cl.So{ao s:S}{e l:Nat}{v:V}{cs:List V}(h:cl ao s e 1 v l cs)(k:IntKind){i:Int}(aR:0<=i)(J:i<l):
  ∃b,v=.bx b 0 l l 1∧dW 1 v (.int k i)=some (.ptr b i.toNat):=by
 cases h with
 |nil=>omega
 |cc b l cs bw h aa=>exact ⟨b,rfl,by rw[px k aR J,gD,ox]⟩
theorem acZ(n:Nat)(x:V):cC n [x]=List.replicate n x:=by
 induction n with
 |zero=>rfl
 |succ n a3=>rw[cC,a3,List.replicate_succ];rfl
theorem Gp{ao s:S}{T:Types}{t e:Nat}{te ti:cb}{x:V}{n:Int}(Z:Loc ao s)(aO:T.get t=some ti)(hk:ti.kind=.slice e)(dv:T.get e=some te)(aY:zero te=[x])(ae:te.size=1)(aR:0<=n)(Y:te.bytes*n<=281474976710656)(a5:n<=4611686018427387904):
  ∃v' s',c6 s (eV T t (.int .i64 n) (.int .i64 n) (aN s))=some (v',s')∧cl ao s' e 1 v' n.toNat (List.replicate n.toNat x)∧Loc ao s'∧fX s s' []∧(∀b,b∈b4 v'->s.n<=b):=by
 have PI:=Z.n;have J:=Z.eK;have U:=Z.ag;obtain ⟨kf,o5,nF,z⟩:=ti;simp only[]at hk;subst hk;unfold eV;simp only[aO,dv];rw[if_pos ⟨aR,vn _,Y,a5⟩,aY,acZ,ae];exact ⟨_,_,rfl,.cc s.n _ _ false ⟨PI,by simp[newObj,aN],by simp only[newObj,aN];exact aJ.jV _ _ _⟩ (by simp),⟨by simp only[newObj,aN];omega,by simp only[newObj,aN];omega,by simp only[newObj,aN];omega⟩,
  ⟨by simp only[newObj,aN];omega,λc aa _=>by simp only[newObj,aN];rw[aJ.hj _ _ D]⟩,λb Y=>by simp[b4,aN]at Y;omega⟩
def l5(s:S)(e:Nat)(k:IntKind)(P:List Int->Prop)(r:ax):Prop:= ∃l,P l∧pT s e 1 l.length (l.map (V.int k)) r
def BI(cz:bt)(f:Nat)(args:List V)(e:Nat)(k:IntKind)(P:List Int->Prop):Prop:= ∀s,s.ag=s.n->l5 s e k P (cz f args s)
theorem bz.GK{O:bo}{G:aJ Func}{T:Types}{f:Nat}{F:Fn}(nK:bz O G T f F)(n:Nat){args:List V}{s:S}{e:Nat}{k:IntKind}{P:List Int->Prop}(h:l5 s e k P (F (mb O G T) n args s))(hw:s.ag<=s.n):l5 s e k P (mb O G T f args s):=by
 obtain ⟨l,al,a5⟩:=h;exact ⟨l,al,nK.runN n a5 hw⟩
theorem uY(s:S)(e:Nat)(k:IntKind)(P:List Int->Prop)(f:List V->S->ax)(c:(List V->S->ax)->ax):l5 s e k P (aw f c)=l5 s e k P (c f):=propext ⟨id,id⟩
theorem E5{s s':S}{e:Nat}{k:IntKind}{P:List Int->Prop}{v:V}{l:List Int}(J:s.ag=s.n)(Z:Loc s s')(h:cl s s' e 1 v l.length (l.map (V.int k)))(al:P l):l5 s e k P (bB s s' [some v]):=
 ⟨l,al,Cl J Z h (lR _ _)⟩
theorem aiJ{cz:bt}{aP st:Bool}{f:Nat}{args args':List V}{bs:List Nat}{ao s bc:S}{e:Nat}{k:IntKind}{P:List Int->Prop}(Z:Loc ao s)(av:gz (aN s) args args' bs bc)(Y:∀b,b∈bs->ao.n<=b)(ai:st=true->aP=true->bs=[])(aa:BI cz f args' e k P)(hk:dT f=false:=by rfl):
  ∃l,P l∧ ∃v s',cJ cz aP st (.fn f [] []) args s=some (v,s')∧cl ao s' e 1 v l.length (l.map (V.int k))∧Loc ao s'∧fX s s' bs∧(∀b,b∈b4 v->s.n<=b)∧ ∀c cs,kY s c cs->c<s.n->kY s' c cs:=by
 have a5:=av.n;have hw:bc.ag=bc.n:=by rw[a5.1,a5.2];rfl
 obtain ⟨l,al,h⟩:=aa bc hw;exact ⟨l,al,OU (hk:=hk) Z av Y ai h (by simp)⟩
theorem XA{cz:bt}{aP st:Bool}{f:Nat}{args:List V}{ao s:S}{e:Nat}{k:IntKind}{P:List Int->Prop}(Z:Loc ao s)(av:args.all ep=true)(aa:BI cz f args e k P)(hk:dT f=false:=by rfl):
  ∃l,P l∧ ∃v s',cJ cz aP st (.fn f [] []) args s=some (v,s')∧cl ao s' e 1 v l.length (l.map (V.int k))∧Loc ao s'∧fX s s' []∧(∀b,b∈b4 v->s.n<=b):=
 let ⟨l,al,v,s',J,U,aj,aH,bD,_⟩:=aiJ (hk:=hk) Z (gz.q8 _ av) (λb Y=>by cases Y) (λ_ _=>rfl) aa
 ⟨l,al,v,s',J,U,aj,aH,bD⟩
def eE(s:S)(P:V->Prop)(r:ax):Prop:= ∃v,P v∧r=some (v,s)
theorem bz.kQ{O:bo}{G:aJ Func}{T:Types}{f:Nat}{F:Fn}(nK:bz O G T f F)(n:Nat){args:List V}{s:S}{P:V->Prop}(h:eE s P (F (mb O G T) n args s))(hw:s.ag<=s.n):∃v,P v∧mb O G T f args s=some (v,s):=by
 obtain ⟨v,al,h⟩:=h;exact ⟨v,al,nK.run n h hw⟩
theorem cW(s:S)(P:V->Prop)(f:List V->S->ax)(c:(List V->S->ax)->ax):eE s P (aw f c)=eE s P (c f):=propext ⟨id,id⟩
section
section
variable {b3 V p X bJ ul jP g:Int}
theorem abg(Ky:b3=p*X+ul)(jX:V=p*bJ+jP)(hu:ul<p)(ad:0<=jP)(al:1<=p)(au:0<=g)(h:X+1<=g*bJ):b3<g*V:=by
 have J:p*(X+1)<=p*(g*bJ):=nz h D;have U:0<=g*jP:=wQ au ad;have aj:g*V=p*(g*bJ)+g*jP:=by rw[jX];grind
 rw[qZ,Int.mul_one]at J;omega
theorem abf(Ky:b3=p*X+ul)(jX:V=p*bJ+jP)(hu:0<=ul)(ad:0<=jP)(fx:jP<p)(au:0<=g)(si:g<=1000000000)(Y:1000000000*p<=V)(h:g*bJ<=X):g*V<=b3+V:=by
 have J:p*(g*bJ)<=p*X:=nz h D;have U:g*jP<=1000000000*jP:=x8 si ad;have aj:g*V=p*(g*bJ)+g*jP:=by rw[jX];grind
 omega
end
section
variable {top r ej v1 v2 g:Int}
theorem aoI(h:g*v1+r=top)(E:r<v1)(hu:ej<1000000000)(ad:0<=v2)(au:0<=g):top*1000000000+ej+1<=(g+1)*(v1*1000000000+v2):=by
 have J:0<=(g+1)*v2:=wQ D ad;have U:(g+1)*(v1*1000000000+v2)=(g*v1)*1000000000+v1*1000000000+(g+1)*v2:=by grind
 omega
theorem aoL(h:g*v1+r=top)(aa:r*1000000000+ej<g*v2):top*1000000000+ej+1<=g*(v1*1000000000+v2):=by
 have U:g*(v1*1000000000+v2)=(g*v1)*1000000000+g*v2:=by grind
 omega
theorem abe(h:g*v1+r=top)(aa:g*v2<=r*1000000000+ej):g*(v1*1000000000+v2)<=top*1000000000+ej:=by
 have U:g*(v1*1000000000+v2)=(g*v1)*1000000000+g*v2:=by grind
 omega
end
theorem aoJ{b:Int}(J:1<=b)(U:b<1000000000):500000000<=1000000000 / (b+1)*b∧1<=1000000000 / (b+1)∧1000000000 / (b+1)*(b+1)<=1000000000:=by
 have aj:=Ho 1000000000 (b+1);have aH:=zv 1000000000 (show 0<b+1 by omega);have bD:=zw 1000000000 (show b+1≠0 by omega);generalize 1000000000 / (b+1)=d at*;generalize 1000000000 % (b+1)=e at*;have ai:1<=d:=by
  rcases (show d<1∨1<=d by omega) with h|h
  have:(b+1)*d<=(b+1)*0:=nz D D;omega;exact h
 have aa:d*(b+1)=(b+1)*d:=oA _ _;refine ⟨?_,ai,D⟩;by_cases Y:500000000<=b;have:1*b<=d*b:=x8 ai D;omega;by_cases eP:d<2;have:d=1:=D;subst this;omega;rcases (show d*b<500000000∨500000000<=d*b by omega) with h|h
 exfalso;have aC:(b+1)*d=d*b+d:=by grind
 have cF:500000001<=d+b:=D;have dV:0<=(d - 1)*(b - 1):=wQ D D;have ba:(d - 1)*(b - 1)=d*b - (d+b)+1:=by grind
 omega;exact h
theorem Md{x b q:Int}(Y:0<b)(J:q*b<=x)(U:x<(q+1)*b):x / b=q∧x % b=x - q*b:=by
 have e:x=(x - q*b)+b*q:=by rw[oA b q];omega
 have aj:(q+1)*b=q*b+b:=by grind
 constructor;rw[e,Int.add_mul_ediv_left _ _ D,Int.ediv_eq_zero_of_lt D D];omega;rw[Int.emod_def];have:x / b=q:=by rw[e,Int.add_mul_ediv_left _ _ D,Int.ediv_eq_zero_of_lt D D];omega
 rw[this,oA b q]
theorem carry(v:Int)(P:Int):P*(v % 1000000000)+1000000000*P*(v / 1000000000)=P*v:=by
 have:=Ho v 1000000000
 conv=>rhs;rw[<-this]
 grind
end
end Go.ah.X
