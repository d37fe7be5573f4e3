/-
  A part: lemmas; conditions: those that each names.
-/
import Derived.Test.YtalmddmghdinkaaGreatDoorF
set_option linter.all false
set_option linter.deprecated false
noncomputable section
namespace Go.ah.X
open Go
section
variable {ak m4:Nat->Prop}{h h':aJ hs}{κ hY:b8}{aq:Nat}{s aK iD:S}{s' bA o6:b9}{bR hN:b8}{cx hS:Nat->Prop}{T:Types}
theorem Pt(m:dP aq κ ak s s'){te:cb}{e n len:Nat}{l pre:List V}{l' GD:List Value}{v:V}(E:fresh te e n len l pre s=some (v,aK))(Z:c2 ak s'.h κ l l')(al:c2 ak s'.h κ pre GD):
  (Nat.ble ((len+n)*te.bytes) 140737488355328 && Nat.blt 0 te.bytes && Nat.beq l'.length (n*te.size) && l'.all scalar)=true∧
  jg κ ak s s' (κ.add s.n s'.n) ak aK (ah.newObj s' (.cells (GD++l') e true true))∧dP aq (κ.add s.n s'.n) ak aK (ah.newObj s' (.cells (GD++l') e true true))∧
  R ak (ah.newObj s' (.cells (GD++l') e true true)).h (κ.add s.n s'.n) v (.slice (some ⟨s'.n,0,none⟩) (len+n) (len+n)):=by
 unfold fresh at E;split at E;rename_i aa;simp only[cU,c4]at E;obtain ⟨rfl,rfl⟩:=E;simp only[dU]at aa;obtain ⟨⟨⟨J,U⟩,aj⟩,aH⟩:=aa;have hk:=BV m;obtain ⟨aB,aT⟩:=wk m (o:=.cells (pre++l) e true true) (o':=.cells (GD++l') e true true) ⟨_,true,rfl,(al.append Z).mono (λ_ h=>h) (λ_ _=>rfl) hk,λ_=>rfl⟩;refine ⟨?_,aB,aT,.bx _ _ _ _ _ _ _ (b8.add_same _ _ _)⟩;rw[<-Z.length,J,U,aj,Z.bL aH];rfl;cases E
theorem W0(m:dP aq κ ak s s'){te:cb}{e:Nat}{x y v:V}{x' dY:Value}(E:ko te e s x y=some (v,aK))(hx:R ak s'.h κ x x')(aI:R ak s'.h κ y dY):
  ∃bR w bA,ah.ko te e s' x' dY=some (w,bA)∧jg κ ak s s' bR ak aK bA∧dP aq bR ak aK bA∧R ak bA.h bR v w:=by
 unfold ko at E;split at E;cases E;rename_i n l sj;obtain ⟨l',Qv,Z⟩:=aaO m sj aI;unfold ah.ko;rw[Qv];simp only[];cases hx<;>simp only[]at E<;>try (cases E;done)
 cases n with
 |zero=>simp only[cU,c4]at E;obtain ⟨rfl,rfl⟩:=E;exact ⟨κ,_,s',rfl,jg.refl m,m,.af _⟩
 |succ n=>
  simp only[]at E;obtain ⟨J,U,aj,aH⟩:=Pt m E Z (.nil _);simp only[gD,hp]at J U aj aH;simp only[J];exact ⟨_,_,_,rfl,U,aj,aH⟩
 rename_i b o len cap z c hk;split at E;cases E;rename_i hle;simp only[hle];cases n with
 |zero=>simp only[cU,c4]at E;obtain ⟨rfl,rfl⟩:=E;exact ⟨κ,_,s',rfl,jg.refl m,m,.bx _ _ _ _ _ _ _ hk⟩
 |succ n=>
  simp only[]at E ⊢;split at E;rename_i xw;simp only[xw];split at E;rename_i bc hw;simp only[cU,c4]at E;obtain ⟨rfl,rfl⟩:=E;obtain ⟨bA,J,U,aj,_⟩:=Tz m hw hk Z;simp only[J];exact ⟨κ,_,bA,rfl,U,aj,.bx _ _ _ _ _ _ _ hk⟩;cases E;rename_i xw;simp only[xw];split at E;rename_i cs aZ own Y;split at E;rename_i hlen;obtain ⟨o',J,us,ja,rfl,U,aj⟩:=m.obj b _ c Y hk;obtain ⟨aB,aT,bp,eh⟩:=Pt m E Z ((U.drop o).take (len*te.size));simp only[aB,J];rw[U.length]at hlen;simp only[hlen];exact ⟨_,_,_,rfl,aT,bp,eh⟩;cases E;rename_i cs aZ Y;split at E;rename_i qC;obtain ⟨o',J,us,ja,rfl,U,aj⟩:=m.obj b _ c Y hk;have aH:=aj rfl;subst aH;obtain ⟨fA,dR⟩:=GU m Y rfl hk (o:=.dead) (o':=.dead) trivial;split at E;rename_i r b5;cases E;have aY:∀d,ak d->(s'.h.set c .dead).get d=s'.h.get d:=λd ai=>fA.1.sN d ai;obtain ⟨aB,aT,bp,eh⟩:=Pt dR b5 (Z.mono (λ_ h=>h) aY (b8.le_refl _)) (U.mono (λ_ h=>h) aY (b8.le_refl _));simp only[aB,J];rw[U.length]at qC;simp only[qC];exact ⟨_,_,_,rfl,fA.trans aT dR,bp,eh⟩;cases E;cases E;cases E
 rename_i cs len c o cap vs aZ bw own aY aa hlen m8 jM;split at E;simp only[cU,c4]at E;obtain ⟨rfl,rfl⟩:=E;have:Nat.ble len cap=true:=by simpa [eu] using m8
 simp only[this];exact ⟨κ,_,s',rfl,jg.refl m,m,.fs _ _ _ _ _ _ _ _ _ _ aY aa hlen m8 jM⟩;cases E
theorem ai3(m:dP aq κ ak s s'){te:cb}{x y v:V}{x' dY:Value}(E:copyV te s x y=some (v,aK))(hx:R ak s'.h κ x x')(aI:R ak s'.h κ y dY):
  ∃bR w bA,ah.copyV te s' x' dY=some (w,bA)∧jg κ ak s s' bR ak aK bA∧dP aq bR ak aK bA∧R ak bA.h bR v w:=by
 unfold copyV at E;unfold ah.copyV;cases hx<;>simp only[]at E<;>try (cases E;done)
 cases aI<;>simp only[]at E<;>first|(cases E;done)|(simp only[cU,c4]at E;obtain ⟨rfl,rfl⟩:=E;exact ⟨κ,_,s',rfl,jg.refl m,m,.int _ _ _⟩)
 rename_i b o len cap z c hk;split at E;cases E;rename_i n l sj;obtain ⟨l',Qv,Z⟩:=aaO m sj aI;simp only[Qv];split at E;rename_i QJ;simp only[cU,c4]at E;obtain ⟨rfl,rfl⟩:=E;simp only[QJ];exact ⟨κ,_,s',rfl,jg.refl m,m,.int _ _ _⟩;rename_i k QJ;simp only[QJ];split at E;rename_i hlen;rw[Z.length]at hlen;simp only[hlen];split at E;rename_i bc hw;simp only[cU,c4]at E;obtain ⟨rfl,rfl⟩:=E;obtain ⟨bA,J,U,aj,_⟩:=Tz m hw hk (Z.take _);simp only[J];exact ⟨κ,_,bA,rfl,U,aj,.int _ _ _⟩;cases E;cases E
theorem RZ{gt:Bool} :∀ {l:List V} {l':List Value} {x v:V} {x':Value},mP gt x l=some v->R ak h κ x x'->c2 ak h κ l l'-> ∃w,ah.mP gt x' l'=some w∧R ak h κ v w
 |[],_,x,v,x',E,hx,Z=>by
  cases Z;unfold mP at E;cases hx<;>simp only[]at E<;>try (cases E;done)
  cases E;exact ⟨_,rfl,.int _ _ _⟩
 |y::l,_,x,v,x',E,hx,Z=>by
  cases Z with
  |cons _ _ dY _ l' aI Z=>
   unfold mP at E;cases hx<;>try (cases E;done)
   cases aI<;>try (cases E;done)
   simp only[]at E;obtain ⟨w,J,U⟩:=RZ E (.int _ _ _) Z;exact ⟨w,by simp only[ah.mP];exact J,U⟩
theorem RQ{o:Option Value}{v:V}(E:lift o=some v):∃w,o=some w∧R ak h κ v w:=by
 unfold lift at E;split at E;rename_i w;cases E;exact ⟨w,rfl,R.np w⟩;cases E
theorem asN{t:cb}{x y:V}{x' dY:Value}{b:Bool}(E:rY t x y=some b)(hx:R ak h κ x x')(aI:R ak h κ y dY):ah.l0 t x' dY=some b:=by
 unfold rY at E;unfold ah.l0 ah.rY;cases hk:t.kind<;>rw[hk]at E<;>cases hx<;>simp only[]at E<;>first|(cases E;done)|(cases aI<;>simp only[]at E<;>first|(cases E;done)|(cases E;rfl)|exact E)
theorem Ry:∀ {l:List V} {l':List Value} {a:List Int},c2 ak h κ l l'->qE l=some a->ah.qE l'=some a
 |[],_,a,h,e=>by
  cases h;simp only[qE,cU]at e;subst e;rfl
 |v::l,_,a,h,e=>by
  cases h with
  |cons _ _ v' _ l' h Z=>
   unfold qE at e;split at e;rename_i heq;cases heq;rename_i b r heq;cases heq;cases h;split at e;rename_i r' E;cases e;unfold ah.qE;simp only[Ry Z E];cases e;cases e
theorem ad6{t:cb}{x y:V}{x' dY:Value}{b:Bool}(E:l0 t x y=some b)(hx:R ak h κ x x')(aI:R ak h κ y dY):ah.l0 t x' dY=some b:=by
 unfold l0 at E;split at E;cases hx with
 |agg _ l l' Z=>
  cases aI with
  |agg _ m jA hm=>
   unfold ah.l0;have oX:=E;unfold MO at E;split at E;rename_i a c av aa;simp only[Ry Z av,Ry hm aa]
   rwa [av,aa]at oX
   cases E
 exact asN E hx aI
theorem ad4{t:cb}{x y:V}{x' dY:Value}{b:Bool}(E:l0 t x y=some b)(hx:R ak h κ x x')(aI:R ak h κ y dY):
  ah.bin .eql (some t) x' dY=(match ah.l0 t x' dY with|some b=>some (.bool b)|none=>none)∧ah.bin .neq (some t) x' dY=(match ah.l0 t x' dY with|some b=>some (.bool (!b))|none=>none):=by
 unfold l0 at E;split at E;cases hx;cases aI;exact ⟨rfl,rfl⟩;unfold rY at E;cases hk:t.kind<;>rw[hk]at E<;>cases hx<;>simp only[]at E<;>first|(cases E;done)|(cases aI<;>simp only[]at E<;>first|(cases E;done)|exact ⟨rfl,rfl⟩)
theorem ahQ{op:BinOp}{t:Option cb}{x y v:V}{x' dY:Value}(E:bin op t x y=some v)(hx:R ak h κ x x')(aI:R ak h κ y dY):∃w,ah.bin op t x' dY=some w∧R ak h κ v w:=by
 unfold bin at E;split at E;cases hx;cases aI;rename_i k a k' b;obtain ⟨w,J,U⟩:=RQ (ak:=ak) (h:=h) (κ:=κ) E;refine ⟨w,?_,U⟩;rw[<-J];cases op<;>rfl;cases hx;cases aI;obtain ⟨w,J,U⟩:=RQ (ak:=ak) (h:=h) (κ:=κ) E;exact ⟨w,J,U⟩;split at E;split at E;rename_i b ad;cases E;rw[(ad4 ad hx aI).1,ad6 ad hx aI];exact ⟨_,rfl,.bool _ _⟩;cases E;split at E;rename_i b ad;cases E;rw[(ad4 ad hx aI).2,ad6 ad hx aI];exact ⟨_,rfl,.bool _ _⟩;cases E;cases E
theorem asD{op:UnOp}{x v:V}{x':Value}(E:un op x=some v)(hx:R ak h κ x x'):∃w,ah.un op x'=some w∧R ak h κ v w:=by
 unfold un at E;cases hx<;>simp only[]at E<;>first|(cases E;done)|exact RQ E
theorem akc{cs:List V}{vs:List Value}{o n:Nat}(E:c2 ak h vu cs ((vs.drop o).take cs.length)):c2 ak h vu (cs.drop n) ((vs.drop (o+n)).take (cs.drop n).length):=by
 have:=E.drop n
 rwa [List.drop_take,vk,<-r2]at this
theorem Pa{cs:List V}{c o n e:Nat}{vs:List Value}{bw own:Bool}{v:V}(ai:uA n cs=some v)(aY:ak c)(aa:h.get c=some (.cells vs e bw own))(Z:o+cs.length<=vs.length)
  (E:c2 ak h vu cs ((vs.drop o).take cs.length)):R ak h κ v (.pointer (some ⟨c,o+n,none⟩)):=by
 unfold uA at ai;split at ai;rename_i hle;cases ai;have hle:n<=cs.length:=by simpa [eu] using hle
 exact .fu _ _ _ _ _ _ _ _ aY aa (by rw[r2];omega) (akc E);cases ai
def sV(ak:Nat->Prop)(h:aJ hs)(κ:b8)(o:Option V)(o':Option Value):Prop:=
 match o,o' with
 |none,none=>True
 |some v,some w=>R ak h κ v w
 |_,_=>False
theorem uu{x:Option V}{x':Option Value}{rK AK dflt n:Nat}(E:bound x rK dflt=some n)(hx:sV ak h κ x x')(hm:rK<=AK):ah.bound x' AK dflt=some n:=by
 cases x with
 |none=>cases x' with
  |none=>exact E
  |some _=>exact hx.elim
 |some v=>cases x' with
  |none=>exact hx.elim
  |some w=>
   have ad:R ak h κ v w:=hx;unfold bound at E;cases ad<;>simp only[]at E<;>try (cases E;done)
   split at E;rename_i hi;cases E;rename_i i;have:(0:Int)<=i∧i<=(AK:Int):=⟨hi.1,D⟩;simp only[ah.bound,if_pos this];cases E
theorem adz{cs:List V}{z len cap:Nat}{lo hi dk:Option V}{oZ fw oh:Option Value}{v:V}(E:wB z len cs lo hi dk=some v)(ih:sV ak h κ lo oZ)(jw:sV ak h κ hi fw)(lP:sV ak h κ dk oh)
  {c o e:Nat} {vs:List Value} {bw own:Bool} (m8:len<=cap) (aY:ak c) (aa:h.get c=some (.cells vs e bw own)) (Z:o+cs.length<=vs.length)
  (jM:c2 ak h vu cs ((vs.drop o).take cs.length)):
  ∃m dE l,ah.bound oh cap cap=some m∧ah.bound fw m len=some dE∧ah.bound oZ dE 0=some l∧Nat.ble dE m=true∧R ak h κ v (.slice (some ⟨c,o+l*z,none⟩) (dE - l) (m - l)):=by
 unfold wB at E;split at E;cases E;rename_i R3 hm;split at E;cases E;rename_i dE yP;split at E;rename_i l sl hle;cases E;simp only[dU,eu]at hle;have FL:R3<=len:=EA hm (cg _);have KY:l<=dE:=EA sl (qX _);have ⟨m,Am,vX⟩:∃m,ah.bound oh cap cap=some m∧R3<=m:=by
  cases dk with
  |none=>
   cases oh with
   |none=>exact ⟨cap,rfl,D⟩
   |some _=>exact lP.elim
  |some u=>
   refine ⟨R3,uu (dflt:=cap) ?_ lP m8,cg _⟩;unfold bound at hm ⊢;cases u<;>simp only[]at hm ⊢ <;>first|(cases hm;done)|exact hm
 refine ⟨m,dE,l,Am,uu yP jw vX,uu sl ih (cg _),by simp only[eu];omega,?_⟩;have hmul:l*z<=dE*z:=x6 _ KY;refine .fs _ _ _ _ _ _ _ _ _ _ aY aa ?_ D ?_;simp only[r2,kV];omega;have J:=(jM.take (dE*z)).drop (l*z);rw[Hi,ny hle.2,List.drop_take (l:=List.drop o vs),vk]at J;have U:((cs.take (dE*z)).drop (l*z)).length=dE*z - l*z:=by
  simp only[r2,kV];omega
 rw[U];exact J;cases E
theorem arB{t:Nat}{x v:V}{x':Value}{lo hi dk:Option V}{oZ fw oh:Option Value}(E:nU T t x lo hi dk=some v)(hx:R ak h κ x x')(ih:sV ak h κ lo oZ)(jw:sV ak h κ hi fw)(lP:sV ak h κ dk oh):
  ∃w,ah.nU T t x' oZ fw oh=some w∧R ak h κ v w:=by
 have own:∀ {z n cap b o c:Nat} {te:cb} (hk:κ b=some c),(match bound dk cap cap with
       |none=>none
       |some m=>match bound hi m n with
        |none=>none
        |some h=>match bound lo h 0,Nat.ble h m with
         |some l,true=>some (V.bx b (o+l*te.size) (h - l) (m - l) z)
         |_,_=>none)=some v-> ∃w,(match ah.bound oh cap cap with
       |none=>none
       |some m=>match ah.bound fw m n with
        |none=>none
        |some h=>match ah.bound oZ h 0,Nat.ble h m with
         |some l,true=>some (Value.slice (some ⟨c,o+l*te.size,none⟩) (h - l) (m - l))
         |_,_=>none)=some w∧R ak h κ v w:=by
  intro z n cap b o c te hk E;split at E;cases E;rename_i m hm;split at E;cases E;rename_i dE yP;split at E;rename_i l sl hle;cases E;simp only[uu hm lP (cg _),uu yP jw (cg _),uu sl ih (cg _),hle];exact ⟨_,rfl,.bx _ _ _ _ _ _ _ hk⟩;cases E
 unfold nU at E;unfold ah.nU;split at E;cases E;rename_i ti ss;rw[ss];simp only[];cases amw:ti.kind<;>rw[amw]at E<;>cases hx<;>simp only[]at E<;>try (cases E;done)
 split at E;cases E;split at E;cases E;rename_i dE yP;split at E;cases E;rename_i l sl;cases E;cases oh with
 |some _=>exact lP.elim
 |none=>
  simp only[uu yP jw (cg _),uu sl ih (cg _)];exact ⟨_,rfl,.str _ _⟩
 rename_i e;split at E;cases E;rename_i te dv;simp only[dv];split at E;cases E;rename_i m hm;split at E;cases E;rename_i dE yP;split at E;rename_i l sl hle;cases E;have aC:m<=0:=EA hm (cg _);have ba:dE<=0:=gb (EA yP (qX _)) aC;have cd:l<=0:=gb (EA sl (qX _)) ba;obtain rfl:m=0:=D;obtain rfl:dE=0:=D;obtain rfl:l=0:=D;simp only[uu hm lP (cg _),uu yP jw (cg _),uu sl ih (cg _),hle];exact ⟨_,rfl,.af _⟩;cases E;rename_i e b o len cap z c hk;split at E;cases E;rename_i te dv;simp only[dv];exact own hk E;rename_i e cs len c o cap vs aZ bw ca aY aa Z m8 jM;split at E;cases E;rename_i te dv;simp only[dv];obtain ⟨m,dE,l,J,U,aj,aH,bD⟩:=adz E ih jw lP m8 aY aa Z jM;simp only[J,U,aj,aH];exact ⟨_,rfl,bD⟩;rename_i n e b o c hk;split at E;cases E;rename_i te dv;simp only[dv];exact own hk E;rename_i n e cs c o vs aZ bw ca aY aa Z jM;split at E;cases E;rename_i te dv;simp only[dv];obtain ⟨m,dE,l,J,U,aj,aH,bD⟩:=adz E ih jw lP (cg _) aY aa Z jM;simp only[J,U,aj,aH];exact ⟨_,rfl,bD⟩
end
section
variable {ak m4:Nat->Prop}{h h':aJ hs}{κ hY:b8}{aq:Nat}{s aK iD:S}{s' bA o6:b9}{bR hN:b8}{cx hS:Nat->Prop}{T:Types}
theorem anQ{t:Nat}{x i v:V}{x' dt:Value}(E:tz T t x i=some v)(hx:R ak h κ x x')(hi:R ak h κ i dt):∃w,ah.tz T t x' dt=some w∧R ak h κ v w:=by
 unfold tz at E;unfold ah.tz;split at E;rename_i aO;cases hx;cases hi;rename_i hk;simp only[aO];split at E;rename_i te dv;simp only[dv];split at E;rename_i aa;cases E;simp only[if_pos aa];exact ⟨_,rfl,.ptr _ _ _ _ hk⟩;cases E;cases E;rename_i aO;cases hi;cases hx with
 |fs _ _ _ c₁ nq att asS xg arC aqe aY xt Z m8 jM=>
  simp only[aO];split at E;rename_i te dv;simp only[dv];split at E;rename_i aa;simp only[if_pos aa];exact ⟨_,rfl,Pa E aY xt Z jM⟩;cases E;cases E
 rename_i aO;cases hx;cases hi;rename_i hk;simp only[aO];split at E;rename_i te dv;simp only[dv];split at E;rename_i aa;cases E;simp only[if_pos aa];exact ⟨_,rfl,.ptr _ _ _ _ hk⟩;cases E;cases E;rename_i aO;cases hi;cases hx with
 |fu _ _ c₁ nq asS xg arC aqe aY xt Z jM=>
  simp only[aO];split at E;rename_i te dv;simp only[dv];split at E;rename_i aa;simp only[if_pos aa];exact ⟨_,rfl,Pa E aY xt Z jM⟩;cases E;cases E
 cases E
theorem anR{t:Nat}{x i v:V}{x' dt:Value}(E:sv T t x i=some v)(hx:R ak h κ x x')(hi:R ak h κ i dt):∃w,ah.sv T t x' dt=some w∧R ak h κ v w:=by
 unfold sv at E;unfold ah.sv;split at E;rename_i aO;cases hx;cases hi;rename_i Z;simp only[aO];split at E;rename_i te dv;simp only[dv];split at E;rename_i aa;simp only[if_pos aa];exact acr E Z;cases E;cases E;rename_i aO;cases hx;cases hi;simp only[aO];split at E;rename_i aa;simp only[if_pos aa];split at E;rename_i b r Y;cases E;simp only[Y];exact ⟨_,rfl,.int _ _ _⟩;cases E;cases E;cases E
theorem Pq:∀ {es:List (V×V)} {iS:List (Value×Value)} {q:IntKind} {a:Int} {f:Option V},kr (.int q a) es=some f->qs ak h κ es iS->
  ∃gj,ah.kr (.int q a) iS=some gj∧sV ak h κ f gj
 |[],[],_,_,_,E,_=>by
  simp only[kr]at E;cases E;exact ⟨none,rfl,trivial⟩
 |(k,v)::es,(k',v')::iS,q,a,f,E,⟨J,U,aj⟩=>by
  unfold kr at E;unfold ah.kr;cases J<;>simp only[]at E<;>try (cases E;done)
  simp only[];split at E;rename_i a7;rw[if_pos a7];split at E;rename_i av;cases E;rw[if_pos av];exact ⟨some v',rfl,U⟩;rename_i av;rw[if_neg av];exact Pq E aj;cases E
 |[],_::_,_,_,_,_,h=>h.elim
 |(_,_)::_,[],_,_,_,_,h=>h.elim
theorem ao2(m:dP aq κ ak s s'){t:Nat}{x k v:V}{x' k':Value}{ok:Bool}(E:sz T t s x k ok=some v)(hx:R ak s'.h κ x x')(hk:R ak s'.h κ k k'):
  ∃w,ah.sz T t s' x' k' ok=some w∧R ak s'.h κ v w:=by
 unfold sz at E;unfold ah.sz;split at E;rename_i aO;simp only[aO];split at E;rename_i J U;simp only[J,U];split at E;rename_i es q a oa;cases hk;have ⟨iS,al4,al5⟩:∃iS,ah.AI s' x'=some iS∧qs ak s'.h κ es iS:=by
  unfold AI at oa;cases hx<;>simp only[]at oa<;>try (cases oa;done)
  cases oa;exact ⟨[],rfl,trivial⟩;rename_i b c Y;split at oa;rename_i atG own hm;cases oa;obtain ⟨o',aj,iS,ja,rfl,aH,_⟩:=m.obj b _ c hm Y;exact ⟨iS,by simp only[ah.AI,aj],aH⟩;cases oa
 simp only[al4];split at E;rename_i f aM;cases E;obtain ⟨gj,aj,aH⟩:=Pq aM al5;simp only[aj];refine ⟨_,rfl,?_⟩;cases f with
 |none=>
  cases gj with
  |none=>
   cases ok;exact R.np _;exact .da _ _ _ (.cons _ _ _ _ _ (R.np _) (.cons _ _ _ _ _ (.bool _ _) (.nil _)))
  |some _=>exact aH.elim
 |some u=>
  cases gj with
  |none=>exact aH.elim
  |some kS=>
   cases ok;exact aH;exact .da _ _ _ (.cons _ _ _ _ _ aH (.cons _ _ _ _ _ (.bool _ _) (.nil _)))
 cases E;cases E;cases E;cases E
theorem acB{q:IntKind}{a:Int}{v:V}{w:Value}(ad:R ak h κ v w):∀ {es:List (V×V)} {iS:List (Value×Value)} {f:Option V},kr (.int q a) es=some f->qs ak h κ es iS->
  qs ak h κ (mQ (.int q a) v es) (ah.mQ (.int q a) w iS)
 |[],[],_,_,_=>⟨.int _ _ _,ad,trivial⟩
 |(k,u)::es,(k',kS)::iS,f,E,⟨J,U,aj⟩=>by
  unfold kr at E;cases J<;>simp only[]at E<;>try (cases E;done)
  rename_i q' b;unfold mQ ah.mQ;simp only[];by_cases av:a=b;rw[if_pos av,if_pos av];exact ⟨.int _ _ _,ad,aj⟩;rw[if_neg av,if_neg av];split at E;exact ⟨.int _ _ _,U,acB ad (by first|exact E|(rw[if_neg av]at E;exact E)) aj⟩;cases E
 |[],_::_,_,_,h=>h.elim
 |(_,_)::_,[],_,_,h=>h.elim
theorem asE(m:dP aq κ ak s s'){t:Nat}{x k v:V}{x' k' w:Value}(E:qS T t s x k v=some aK)(hx:R ak s'.h κ x x')(hk:R ak s'.h κ k k')(ad:R ak s'.h κ v w):
  ∃bA,ah.qS T t s' x' k' w=some bA∧jg κ ak s s' κ ak aK bA∧dP aq κ ak aK bA:=by
 unfold qS at E;unfold ah.qS;split at E;cases E;split at E;rename_i aO;simp only[aO];split at E;rename_i J;cases hk;cases hx with
 |map _ r c ZY=>
  simp only[J];split at E;rename_i es oa;obtain ⟨o',aj,iS,ja,rfl,aH,bD⟩:=m.obj _ _ c oa ZY;have cF:=bD rfl;subst cF;simp only[aj];split at E;rename_i f aM;cases E;obtain ⟨gj,dV,_⟩:=Pq aM aH;simp only[dV];obtain ⟨aB,aT⟩:=GU m oa rfl ZY (o:=.map (mQ (.int _ _) v es) true) (o':=.map (ah.mQ (.int _ _) w iS) true) ⟨_,true,rfl,acB ad aM aH,λ_=>rfl⟩;exact ⟨_,rfl,aB,aT⟩;cases E;cases E
 cases E;cases E
theorem ahZ{t:Nat}{ps:List (Nat×V)}{qg:List (Nat×Value)}{v:V}(E:s3 T t ps=some v)(al:r3 ak h κ ps qg):∃w,ah.s3 T t qg=some w∧R ak h κ v w:=by
 unfold s3 at E;unfold ah.s3;split at E;rename_i ti aO;rw[aO];obtain ⟨kf,o5,nF,z⟩:=ti;cases kf<;>simp only[]at E<;>try (cases E;done)
 rename_i n e;split at E;rename_i te dv;simp only[dv];split at E;rename_i l Z;cases E;obtain ⟨l',J,U⟩:=Po al Z (c2.zero _);simp only[J];exact ⟨_,rfl,.agg _ _ _ U⟩;cases E;cases E;split at E;rename_i l Z;cases E;obtain ⟨l',J,U⟩:=Po al Z (c2.zero _);dsimp only;split;rename_i AG nf;have e:some AG=some l':=nf.symm.trans J;cases e;exact ⟨_,rfl,.agg _ _ _ U⟩;rename_i nf;have e:none=some l':=nf.symm.trans J;cases e;cases E;cases E
theorem ahY(m:dP aq κ ak s s'){t len:Nat}{ps:List (Nat×V)}{qg:List (Nat×Value)}{v:V}(E:qy T t len ps s=some (v,aK))(al:r3 ak s'.h κ ps qg):
  ∃bR w bA,ah.qy T t len qg s'=some (w,bA)∧jg κ ak s s' bR ak aK bA∧dP aq bR ak aK bA∧R ak bA.h bR v w:=by
 unfold qy at E;unfold ah.qy;split at E;rename_i aO;simp only[aO];split at E;rename_i te dv;simp only[dv];split at E;rename_i hle;simp only[hle];split at E;rename_i l Z;simp only[cU,c4]at E;obtain ⟨rfl,rfl⟩:=E;obtain ⟨l',J,U⟩:=Po al Z (c2.cC (c2.zero te) len);simp only[J];rename_i e _ _ _ _ _ _;obtain ⟨aB,aT⟩:=wk m (o:=.cells l e false true) (o':=.cells l' e false true) ⟨_,true,rfl,U.mono (λ_ h=>h) (λ_ _=>rfl) (BV m),λ_=>rfl⟩;exact ⟨_,_,_,rfl,aB,aT,.bx _ _ _ _ _ _ _ (b8.add_same _ _ _)⟩;cases E;cases E;cases E;cases E
theorem ao4(m:dP aq κ ak s s'){t:Nat}{l c v:V}{l' bj:Value}(E:eV T t l c s=some (v,aK))(Z:R ak s'.h κ l l')(aa:R ak s'.h κ c bj):
  ∃bR w bA,ah.eV T t l' bj s'=some (w,bA)∧jg κ ak s s' bR ak aK bA∧dP aq bR ak aK bA∧R ak bA.h bR v w:=by
 unfold eV at E;unfold ah.eV;split at E;rename_i aO;cases Z;cases aa;simp only[aO];split at E;rename_i te dv;simp only[dv];split at E;rename_i qC;simp only[cU,c4]at E;obtain ⟨rfl,rfl⟩:=E;simp only[if_pos qC];obtain ⟨aB,aT⟩:=wk m (o:=.cells (cC _ (zero te)) _ false true) (o':=.cells (ah.cC _ (ah.eJ te.zero)) _ false true) ⟨_,true,rfl,c2.cC (c2.zero te) _,λ_=>rfl⟩;exact ⟨_,_,_,rfl,aB,aT,.bx _ _ _ _ _ _ _ (b8.add_same _ _ _)⟩;cases E;cases E;cases E
theorem atb(m:dP aq κ ak s s'){te:cb}{e:Nat}{x y v:V}{x' dY:Value}(E:qU te e s x y=some (v,aK))(hx:R ak s'.h κ x x')(aI:R ak s'.h κ y dY):
  ∃bR w bA,ah.qU te e s' x' dY=some (w,bA)∧jg κ ak s s' bR ak aK bA∧dP aq bR ak aK bA∧R ak bA.h bR v w:=by
 unfold qU at E;unfold ah.qU;split at E;cases hx;cases aI;split at E;rename_i qC;simp only[cU,c4]at E;obtain ⟨rfl,rfl⟩:=E;simp only[if_pos qC];obtain ⟨aB,aT⟩:=wk m (o:=.cells (cC _ (zero te)) _ true true) (o':=.cells (ah.cC _ (ah.eJ te.zero)) _ true true) ⟨_,true,rfl,c2.cC (c2.zero te) _,λ_=>rfl⟩;exact ⟨_,_,_,rfl,aB,aT,.bx _ _ _ _ _ _ _ (b8.add_same _ _ _)⟩;cases E;cases E
theorem ai0(m:dP aq κ ak s s'){a b:Nat}{x v:V}{x':Value}(E:n1 T a b x s=some (v,aK))(hx:R ak s'.h κ x x'):
  ∃bR w bA,ah.n1 T a b x' s'=some (w,bA)∧jg κ ak s s' bR ak aK bA∧dP aq bR ak aK bA∧R ak bA.h bR v w:=by
 unfold n1 at E;unfold ah.n1;split at E;rename_i J U;cases hx;simp only[J,U];simp only[cU,c4]at E;obtain ⟨rfl,rfl⟩:=E;exact ⟨κ,_,s',rfl,jg.refl m,m,.int _ _ _⟩;rename_i J U;cases hx;simp only[J,U];simp only[cU,c4]at E;obtain ⟨rfl,rfl⟩:=E;exact ⟨κ,_,s',rfl,jg.refl m,m,.str _ _⟩;rename_i J U;simp only[J,U];split at E;rename_i aj;cases hx<;>simp only[]at E<;>try (cases E;done)
 simp only[cU,c4]at E;obtain ⟨rfl,rfl⟩:=E;simp only[aj];exact ⟨κ,_,s',rfl,jg.refl m,m,.str _ _⟩;rename_i hk;simp only[aj];split at E;rename_i l Z;obtain ⟨l',aH,bD⟩:=SH m Z hk;simp only[aH];split at E;rename_i bs sh;simp only[cU,c4]at E;obtain ⟨rfl,rfl⟩:=E;simp only[Td sh bD];exact ⟨κ,_,s',rfl,jg.refl m,m,.str _ _⟩;cases E;cases E;rename_i aY aa Z m8 jM;simp only[aj];split at E;rename_i l aO;obtain ⟨aH,rfl⟩:=S9 aO;obtain ⟨bD,cF⟩:=Pu (κ:=κ) aa Z jM aH;simp only[bD];split at E;rename_i bs sh;simp only[cU,c4]at E;obtain ⟨rfl,rfl⟩:=E;simp only[Td sh cF];exact ⟨κ,_,s',rfl,jg.refl m,m,.str _ _⟩;cases E;cases E;cases E;rename_i J U;cases hx;simp only[J,U];split at E;rename_i aj;simp only[aj];split at E;rename_i aY;simp only[cU,c4]at E;obtain ⟨rfl,rfl⟩:=E;simp only[aY];obtain ⟨aB,aT⟩:=wk m (o:=.cells (ofBytes _) _ true true) (o':=.cells (ah.ofBytes _) _ true true) ⟨_,true,rfl,c2.ofBytes _,λ_=>rfl⟩;exact ⟨_,_,_,rfl,aB,aT,.bx _ _ _ _ _ _ _ (b8.add_same _ _ _)⟩;cases E;cases E;cases E
theorem ajV{t f:Nat}{x v:V}{x':Value}(E:s5 T t x f=some v)(hx:R ak h κ x x'):∃w,ah.s5 T t x' f=some w∧R ak h κ v w:=by
 unfold s5 at E;unfold ah.s5;split at E;rename_i aO;split at E;rename_i jU off r aM;split at E;rename_i ti ss;split at E;rename_i iN;split at E;cases hx with
 |ptr _ _ _ c hk=>
  cases E;simp only[aO,aM,ss,iN];exact ⟨_,rfl,.ptr _ _ _ _ hk⟩
 cases hx with
 |fu _ _ c o vs e bw own aY aa Z jM=>
  simp only[aO,aM,ss,iN];exact ⟨_,rfl,Pa E aY aa Z jM⟩
 cases E;cases E;cases E;cases E;cases E
theorem ajW{t f:Nat}{x v:V}{x':Value}(E:s6 T t x f=some v)(hx:R ak h κ x x'):∃w,ah.s6 T t x' f=some w∧R ak h κ v w:=by
 unfold s6 at E;unfold ah.s6;split at E;rename_i aO;cases hx with
 |agg _ _ l' Z=>
  split at E;rename_i jU off r aM;split at E;rename_i ti ss;simp only[aO,aM,ss];exact acr E Z;cases E;cases E
 cases E
inductive mH(ak:Nat->Prop)(h:aJ hs)(κ:b8):jr->nE->Prop
 |val (v:V) (w:Value) (ad:R ak h κ v w):mH ak h κ (.val v) (.val w)
 |call (f:Nat) (a:List V) (a8:List Value) (av:c2 ak h κ a a8):mH ak h κ (.call f a) (.call f a8)
 |round (l c:Nat) (a:List V) (a8:List Value) (Z:κ l=some c) (av:c2 ak h κ a a8):mH ak h κ (.round l a) (.round c a8)
def yg(aq:Nat)(κ:b8)(ak:Nat->Prop)(s:S)(s':b9)(r:jr)(aK:S)(o:Option (nE×b9)):Prop:=
 ∃bR r' bA,o=some (r',bA)∧jg κ ak s s' bR ak aK bA∧dP aq bR ak aK bA∧mH ak bA.h bR r r'
theorem u5(m:dP aq κ ak s s'){o:Option V}{o':Option Value}{r:jr}(E:one o s=some (r,aK))(aE:∀v,o=some v-> ∃w,o'=some w∧R ak s'.h κ v w):yg aq κ ak s s' r aK (ah.one o' s'):=by
 unfold one at E;split at E;rename_i v;simp only[cU,c4]at E;obtain ⟨rfl,rfl⟩:=E;obtain ⟨w,rfl,hw⟩:=aE v rfl;exact ⟨κ,_,s',rfl,jg.refl m,m,.val _ _ hw⟩;cases E
theorem A4{o:Option (V×S)}{o':Option (Value×b9)}{r:jr}(E:two o=some (r,aK))
  (aE:∀v,o=some (v,aK)-> ∃bR w bA,o'=some (w,bA)∧jg κ ak s s' bR ak aK bA∧dP aq bR ak aK bA∧R ak bA.h bR v w):yg aq κ ak s s' r aK (ah.two o'):=by
 unfold two at E;split at E;rename_i v bc;simp only[cU,c4]at E;obtain ⟨rfl,rfl⟩:=E;obtain ⟨bR,w,bA,rfl,J,U,aj⟩:=aE v rfl;exact ⟨bR,_,bA,rfl,J,U,.val _ _ aj⟩;cases E
theorem nV(m:dP aq κ ak s s'){v:V}{w:Value}{r:jr}(E:some (jr.val v,s)=some (r,aK))(hw:R ak s'.h κ v w):yg aq κ ak s s' r aK (some (.val w,s')):=by
 simp only[cU,c4]at E;obtain ⟨rfl,rfl⟩:=E;exact ⟨κ,_,s',rfl,jg.refl m,m,.val _ _ hw⟩
theorem ah1(m:dP aq κ ak s s'){b:Builtin}{lE:List Nat}{args:List V}{args':List Value}{r:jr}(E:iR T b lE args s=some (r,aK))(av:c2 ak s'.h κ args args'):
  yg aq κ ak s s' r aK (ah.iR T b lE args' s'):=by
 unfold iR at E;split at E;cases av with
 |cons _ _ x' _ l' hx Z=>
  cases Z;unfold ah.iR;simp only[];split at E;rename_i aO;cases hx;simp only[aO];exact nV m E (.int _ _ _);rename_i aO;simp only[aO];exact nV m E (.int _ _ _);rename_i aO;cases hx;simp only[aO];exact nV m E (.int _ _ _);rename_i aO;cases hx;simp only[aO];exact nV m E (.int _ _ _);rename_i aO;cases hx;simp only[aO];exact nV m E (.int _ _ _);rename_i aO;cases hx;simp only[aO];exact nV m E (.int _ _ _);rename_i aO;cases hx with
  |map _ b c Y=>
   simp only[aO];split at E;rename_i es own hm;obtain ⟨o',aj,iS,ja,rfl,aH,_⟩:=m.obj _ _ c hm Y;simp only[aj];have:∀ {es:List (V×V)} {iS:List (Value×Value)},qs ak s'.h κ es iS->es.length=iS.length:=by
    intro es
    induction es with
    |nil=>intro iS al;cases iS with
     |nil=>rfl
     |cons _ _=>exact al.elim
    |cons e es a3=>intro iS al;cases iS with
     |nil=>exact al.elim
     |cons _ _=>simp[a3 al.2.2]
   rw[<-this aH];exact nV m E (.int _ _ _);cases E
  cases E
 cases av with
 |cons _ _ x' _ l' hx Z=>
  cases Z;unfold ah.iR;simp only[];split at E;rename_i aO;cases hx;simp only[aO];exact nV m E (.int _ _ _);rename_i aO;cases hx with
  |bx _ b _ _ _ _ c Y=>
   simp only[aO];split at E;rename_i cs e own hm;obtain ⟨o',aj,vs,ja,rfl,aH,_⟩:=m.obj _ _ c hm Y;simp only[aj];exact nV m E (.int _ _ _);cases E
  cases E
 cases av with
 |cons _ _ x' _ l' hx Z=>
  cases Z with
  |cons _ _ dY _ abl aI Z=>
   cases Z;unfold ah.iR;simp only[];split at E;rename_i J U;simp only[J,U];split at E;cases E;rename_i te y dv yU;simp only[dv];have ey:∃a n c,dY=.slice a n c:=by
    unfold two at E;split at E;rename_i DQ ao P0;unfold ko at P0;split at P0;cases P0;rename_i n l sj;unfold items at sj;cases aI<;>simp only[]at sj<;>first|(cases sj;done)|exact ⟨_,_,_,rfl⟩|exact absurd rfl (yU _)
    cases E
   obtain ⟨a,n,c,rfl⟩:=ey;exact A4 E λv aE=>W0 m aE hx aI;cases E;rename_i J U;simp only[J,U];split at E;rename_i te st dv;simp only[dv];cases aI;exact A4 E λv aE=>W0 m aE hx (.str _ _);cases E;rename_i J U;simp only[J,U];split at E;rename_i te dv;simp only[dv];exact A4 E λv aE=>atb m aE hx aI;cases E;cases E
 cases av with
 |cons _ _ x' _ l' hx Z=>
  cases Z with
  |cons _ _ dY _ abl aI Z=>
   cases Z;unfold ah.iR;simp only[];split at E;rename_i J;simp only[J];split at E;rename_i te dv;simp only[dv];exact A4 E λv aE=>ai3 m aE hx aI;cases E;cases E
 cases av with
 |cons _ _ x' _ l' hx Z=>
  unfold ah.iR;simp only[];exact u5 m E λv aE=>RZ aE hx Z
 cases av with
 |cons _ _ x' _ l' hx Z=>
  unfold ah.iR;simp only[];exact u5 m E λv aE=>RZ aE hx Z
 cases E
theorem c2.map{ρ:Operand->V}{dq:Operand->Value} :∀ {l:List Operand},(∀x∈l,R ak h κ (ρ x) (dq x))->c2 ak h κ (l.map ρ) (l.map dq)
 |[],_=>.nil _
 |x::l,dE=>.cons _ _ _ _ _ (dE x (by simp)) (c2.map λy aI=>dE y (by simp[aI]))
theorem r3.lA{ρ:Operand->V}{dq:Operand->Value} :∀ {l:List (Nat×Operand)},(∀p∈l,R ak h κ (ρ p.2) (dq p.2))->r3 ak h κ (l.map λp=>(p.1,ρ p.2)) (l.map λp=>(p.1,dq p.2))
 |[],_=>.nil
 |x::l,dE=>.cons _ _ _ _ _ (dE x (by simp)) (r3.lA λy aI=>dE y (by simp[aI]))
end
section
variable {ak m4:Nat->Prop}{h h':aJ hs}{κ hY:b8}{aq:Nat}{s aK iD:S}{s' bA o6:b9}{bR hN:b8}{cx hS:Nat->Prop}{T:Types}
theorem aiK(m:dP aq κ ak s s'){c:Call}{ρ:Operand->V}{dq:Operand->Value}{r:jr}(E:ix T c ρ s=some (r,aK))(dC:∀x∈c.operands,R ak s'.h κ (ρ x) (dq x)):
  yg aq κ ak s s' r aK (ah.ix T c dq s'):=by
 have mh:c2 ak s'.h κ (c.args.toList.map ρ) (c.args.toList.map dq):=c2.map λx hx=>dC x (by
  unfold Call.operands;split<;>simp_all)
 unfold ix at E;unfold ah.ix;split at E;rename_i b Y;split at E;cases E;simp only[Y];exact ah1 m E mh;cases E;rename_i f aM;simp only[aM];have b5:=dC f (by unfold Call.operands;simp[aM]);split at E;rename_i g first captured au
 rw[au]at b5;generalize yL:dq f=gj at b5;cases b5 with
 |fn _ _ _ _ a8 a4 av Y=>
  simp only[cU,c4]at E;obtain ⟨rfl,rfl⟩:=E;exact ⟨κ,_,s',rfl,jg.refl m,m,.call _ _ _ (av.append (mh.append Y))⟩
 rename_i l au;rw[au]at b5;generalize yL:dq f=gj at b5;cases b5 with
 |yield _ _ c Y=>
  simp only[cU,c4]at E;obtain ⟨rfl,rfl⟩:=E;exact ⟨κ,_,s',rfl,jg.refl m,m,.round _ _ _ _ Y mh⟩
 cases E
theorem Se{ρ:Operand->V}{dq:Operand->Value}{o:Option Operand}(dE:∀x,o=some x->R ak h κ (ρ x) (dq x)):sV ak h κ (o.map ρ) (o.map dq):=by
 cases o with
 |none=>trivial
 |some x=>exact dE x rfl
theorem ajO(m:dP aq κ ak s s'){o:Op}{ρ:Operand->V}{dq:Operand->Value}{r:jr}(E:evalOp T ρ s o=some (r,aK))(dC:∀x∈o.operands,R ak s'.h κ (ρ x) (dq x)):
  yg aq κ ak s s' r aK (ah.evalOp T dq s' o):=by
 cases o<;>simp only[evalOp]at E<;>try (cases E;done)
 case move x=>exact nV m E (dC x (by simp[Op.operands]))
 case assign x=>exact nV m E (dC x (by simp[Op.operands]))
 case pick c a b=>
  have aa:=dC c (by simp[Op.operands]);have av:=dC a (by simp[Op.operands]);have Y:=dC b (by simp[Op.operands]);split at E;rename_i e;rw[e]at aa;generalize iU:dq c=bj at aa;cases aa;simp only[ah.evalOp,iU];exact nV m E av;rename_i e;rw[e]at aa;generalize iU:dq c=bj at aa;cases aa;simp only[ah.evalOp,iU];exact nV m E Y;cases E
 case alloc t=>
  split at E;rename_i ti aO;simp only[cU,c4]at E;obtain ⟨rfl,rfl⟩:=E;simp only[ah.evalOp,aO,ah.two,rN];obtain ⟨aB,aT⟩:=wk m (o:=.cells (zero ti) t false true) (o':=.cells (ah.eJ ti.zero) t false true) ⟨_,true,rfl,c2.zero ti,λ_=>rfl⟩;exact ⟨_,_,_,rfl,aB,aT,.val _ _ (.ptr _ _ _ _ (b8.add_same _ _ _))⟩;cases E
 case box t x=>
  have hx:=dC x (by simp[Op.operands]);split at E;cases E;rename_i Y;simp only[cU,c4]at E;obtain ⟨rfl,rfl⟩:=E;simp only[ah.evalOp,ah.two,rN];obtain ⟨aB,aT⟩:=wk m (o:=.cells (eJ (ρ x)) t false true) (o':=.cells (ah.eJ (dq x)) t false true) ⟨_,true,rfl,(hx.eJ Y).mono (λ_ h=>h) (λ_ _=>rfl) (BV m),λ_=>rfl⟩;exact ⟨_,_,_,rfl,aB,aT,.val _ _ (.ptr _ _ _ _ (b8.add_same _ _ _))⟩
 case build t ps=>
  have al:r3 ak s'.h κ (lA ρ ps) (ah.lA dq ps):=r3.lA λp al=>dC p.2 (by simp[Op.operands];exact ⟨p.1,by simpa using al⟩);simp only[ah.evalOp];exact u5 m E λv ad=>ahZ ad al
 case buildSlice t len ps=>
  have al:r3 ak s'.h κ (lA ρ ps) (ah.lA dq ps):=r3.lA λp al=>dC p.2 (by simp[Op.operands];exact ⟨p.1,by simpa using al⟩);simp only[ah.evalOp];exact A4 E λv ad=>ahY m ad al
 case load t a=>
  have av:=dC a (by simp[Op.operands]);split at E;rename_i ti aO;have:∃a8,dq a=.pointer (some a8)∧yg aq κ ak s s' r aK (ah.one (ah.loadT ti s' a8) s'):=by
   unfold one at E;split at E;rename_i v ad;obtain ⟨a8,w,J,U,aj⟩:=abv m ad av;refine ⟨a8,J,?_⟩;rw[U];exact nV m E aj;cases E
  obtain ⟨a8,J,U⟩:=this;simp only[ah.evalOp,aO,J];exact U;cases E
 case store t a x=>
  have av:=dC a (by simp[Op.operands]);have hx:=dC x (by simp[Op.operands]);split at E;rename_i ti aO;unfold three at E;split at E;rename_i bc ae;simp only[cU,c4]at E;obtain ⟨rfl,rfl⟩:=E;obtain ⟨a8,bA,J,U,aj,aH⟩:=ar2 m ae av hx;simp only[ah.evalOp,aO,J,U,ah.three];exact ⟨κ,_,bA,rfl,aj,aH,.val _ _ (.bad _ _)⟩;cases E;cases E
 case nilCheck x=>
  have hx:=dC x (by simp[Op.operands]);split at E;rename_i e;rw[e]at hx;generalize iU:dq x=bj at hx;cases hx with
  |ptr _ _ _ c Y=>simp only[ah.evalOp,iU];exact nV m E (.ptr _ _ _ _ Y)
  rename_i e;rw[e]at hx;generalize iU:dq x=bj at hx;cases hx with
  |fu _ _ c o vs e bw own aY aa Z jM=>simp only[ah.evalOp,iU];exact nV m E (.fu _ _ _ _ _ _ _ _ aY aa Z jM)
  rename_i e;rw[e]at hx;generalize iU:dq x=bj at hx;cases hx with
  |fn _ _ _ _ a8 a4 av Y=>simp only[ah.evalOp,iU];exact nV m E (.fn _ _ _ _ _ _ av Y)
  rename_i e;rw[e]at hx;generalize iU:dq x=bj at hx;cases hx with
  |yield _ _ c Y=>simp only[ah.evalOp,iU];exact nV m E (.yield _ _ _ Y)
  cases E
 case binOp op t x y mR=>
  have hx:=dC x (by simp[Op.operands]);have aI:=dC y (by simp[Op.operands]);simp only[ah.evalOp];exact u5 m E λv ad=>ahQ ad hx aI
 case unOp op t x=>
  have hx:=dC x (by simp[Op.operands]);simp only[ah.evalOp];exact u5 m E λv ad=>asD ad hx
 case convert a b x=>
  have hx:=dC x (by simp[Op.operands]);simp only[ah.evalOp];exact A4 E λv ad=>ai0 m ad hx
 case makeFunc fn first captured=>
  have J:c2 ak s'.h κ (first.toList.map ρ) (first.toList.map dq):=c2.map λx hx=>dC x (by simp[Op.operands];exact .inl (by simpa using hx));have U:c2 ak s'.h κ (captured.toList.map ρ) (captured.toList.map dq):=c2.map λx hx=>dC x (by simp[Op.operands];exact .inr (by simpa using hx));split at E;simp only[ah.evalOp];exact nV m E (.fn _ _ _ _ _ _ J U);cases E
 case makeMap t r'=>
  split at E;rename_i aO;simp only[cU,c4]at E;obtain ⟨rfl,rfl⟩:=E;simp only[ah.evalOp,aO,ah.two];obtain ⟨aB,aT⟩:=wk m (o:=.map [] true) (o':=.map [] true) ⟨[],true,rfl,trivial,λ_=>rfl⟩;exact ⟨_,_,_,rfl,aB,aT,.val _ _ (.map _ _ _ (b8.add_same _ _ _))⟩;cases E
 case mapUpdate t ao8 k v=>
  have J:=dC ao8 (by simp[Op.operands]);have U:=dC k (by simp[Op.operands]);have aj:=dC v (by simp[Op.operands]);unfold three at E;split at E;rename_i bc ae;simp only[cU,c4]at E;obtain ⟨rfl,rfl⟩:=E;obtain ⟨bA,aB,aT,bp⟩:=asE m ae J U aj;simp only[ah.evalOp,aB,ah.three];exact ⟨κ,_,bA,rfl,aT,bp,.val _ _ (.bad _ _)⟩;cases E
 case makeSlice t l c=>
  have hx:=dC l (by simp[Op.operands]);have aI:=dC c (by simp[Op.operands]);simp only[ah.evalOp];exact A4 E λv ad=>ao4 m ad hx aI
 case slice t x lo hi dk=>
  have hx:=dC x (by simp[Op.operands]);have J:sV ak s'.h κ (lo.map ρ) (lo.map dq):=Se λy aI=>dC y (by subst aI;simp[Op.operands]);have U:sV ak s'.h κ (hi.map ρ) (hi.map dq):=Se λy aI=>dC y (by subst aI;simp[Op.operands]);have aj:sV ak s'.h κ (dk.map ρ) (dk.map dq):=Se λy aI=>dC y (by subst aI;simp[Op.operands]);have key:one (nU T t (ρ x) (lo.map ρ) (hi.map ρ) (dk.map ρ)) s=some (r,aK)->yg aq κ ak s s' r aK (ah.one (ah.nU T t (dq x) (lo.map dq) (hi.map dq) (dk.map dq)) s'):=
   λE=>u5 m E λv ad=>arB ad hx J U aj
  simp only[ah.evalOp];cases hi with
  |none=>cases dk with
   |none=>exact key E
   |some _=>cases E
  |some _=>exact key E
 case fieldAddr t x f=>
  have hx:=dC x (by simp[Op.operands]);simp only[ah.evalOp];exact u5 m E λv ad=>ajV ad hx
 case field t x f=>
  have hx:=dC x (by simp[Op.operands]);simp only[ah.evalOp];exact u5 m E λv ad=>ajW ad hx
 case indexAddr t x i=>
  have hx:=dC x (by simp[Op.operands]);have aI:=dC i (by simp[Op.operands]);simp only[ah.evalOp];exact u5 m E λv ad=>anQ ad hx aI
 case index t x i=>
  have hx:=dC x (by simp[Op.operands]);have aI:=dC i (by simp[Op.operands]);simp only[ah.evalOp];exact u5 m E λv ad=>anR ad hx aI
 case lookup t x i ok=>
  have hx:=dC x (by simp[Op.operands]);have aI:=dC i (by simp[Op.operands]);simp only[ah.evalOp];exact u5 m E λv ad=>ao2 m ad hx aI
 case extract t i=>
  have hx:=dC t (by simp[Op.operands]);split at E;rename_i vs e;rw[e]at hx;generalize iU:dq t=bj at hx;cases hx with
  |da _ _ l' Z=>
   simp only[ah.evalOp,iU];split at E;rename_i v va ai;have:=Z.drop i;rw[ai]at this;generalize l'.drop i=ws at this ⊢;cases this with
   |cons _ _ w _ abl aj _=>exact nV m E aj
   cases E
  cases E
 case call c=>
  simp only[ah.evalOp];exact aiK m E dC
end
section
variable {ak m4:Nat->Prop}{h h':aJ hs}{κ hY:b8}{aq:Nat}{s bc aK iD:S}{s' bA o6:b9}{bR hN:b8}{cx hS:Nat->Prop}{T:Types}
def kn(κ:b8)(ak:Nat->Prop)(bs:List Nat):Nat->Prop:=λc=>ak c∨ ∃b∈bs,κ b=some c
theorem kn.le{κ:b8}{ak:Nat->Prop}(bs:List Nat):∀c,ak c->kn κ ak bs c:=λ_ h=>.inl h
theorem kn.sub{κ:b8}{ak:Nat->Prop}{bs cs:List Nat}(ae:∀b,b∈bs->b∈cs):∀c,kn κ ak bs c->kn κ ak cs c:=by
 rintro c (h|⟨b,J,U⟩);exact .inl h;exact .inr ⟨b,ae b J,U⟩
def yd(κ:b8)(s:S)(bs:List Nat):Prop:= ∀b∈bs,(∃cs e bw own,s.h.get b=some (.cells cs e bw own))∧ ∃c,κ b=some c
theorem yd.nil(κ:b8)(s:S):yd κ s []:=λb Y=>absurd Y (by simp)
def Wo(κ:b8)(ak:Nat->Prop)(s:S)(s':b9)(f:V->Option (V×List Nat)):Prop:=
 ∀v v' bs w,f v=some (v',bs)->R ak s'.h κ v w->R (kn κ ak bs) s'.h vu v' w∧yd κ s bs
theorem E8{f:V->Option (V×List Nat)}(aM:Wo κ ak s s' f):∀ {l l':List V} {bs:List Nat} {ws:List Value},iy f l=some (l',bs)->c2 ak s'.h κ l ws->
  c2 (kn κ ak bs) s'.h vu l' ws∧yd κ s bs∧l'.length=l.length
 |[],l',bs,ws,E,Z=>by
  simp only[iy,cU,c4]at E;obtain ⟨rfl,rfl⟩:=E;cases Z;exact ⟨.nil _,yd.nil κ s,rfl⟩
 |v::l,l',bs,ws,E,Z=>by
  cases Z with
  |cons _ _ w _ ws ad Z=>
   unfold iy at E;split at E;cases E;rename_i my uw ant;split at E;cases E;rename_i GN c₁ FX;simp only[cU,c4]at E;obtain ⟨rfl,rfl⟩:=E;obtain ⟨J,U⟩:=aM _ _ _ _ ant ad;obtain ⟨aj,aH,bD⟩:=E8 aM FX Z;refine ⟨.cons _ _ _ _ _ (J.mono (kn.sub λb Y=>by simp[Y]) (λ_ _=>rfl) (b8.le_refl _)) (aj.mono (kn.sub λb Y=>by simp[Y]) (λ_ _=>rfl) (b8.le_refl _)),λb Y=>?_,by simp[bD]⟩;rcases mB.1 Y with Y|Y
   exact U b Y;exact aH b Y
theorem J9(m:dP aq κ ak s s'):∀n,Wo κ ak s s' (fq s n)
 |0=>λv v' bs w E _=>by cases E
 |n+1=>λv v' bs w E ad=>by
  have a3:=J9 m n;have jY:∀c,ak c->kn κ ak [] c:=kn.le [];have LZ:yd κ s []:=yd.nil κ s;unfold fq at E;cases ad<;>simp only[]at E<;>try (cases E;done)
  all_goals try (simp only[cU,c4]at E;obtain ⟨rfl,rfl⟩:=E;refine ⟨?_,LZ⟩;constructor;done)
  rename_i b o l cap z c hk;split at E;cases E;rename_i hle;split at E;cases E;rename_i cs iK;split at E;rename_i cs' pY aM;simp only[cU,c4]at E;obtain ⟨rfl,rfl⟩:=E;unfold qh at iK;split at iK;rename_i aja e bw own Y;split at iK;rename_i hlen;cases iK;obtain ⟨o',J,vs,ja,rfl,U,_⟩:=m.obj b _ c Y hk;obtain ⟨aj,aH,bD⟩:=E8 a3 aM ((U.drop o).take (l*z));have hlen:o+l*z<=aja.length:=by simpa [eu] using hlen
  have cF:cs'.length=l*z:=by rw[bD,kV,r2];omega
  have tn:kn κ ak (r8 s b pY) c:=by
   unfold r8;cases own with
   |false=>rw[Y];exact .inl (m.gl b _ _ _ c Y hk)
   |true=>rw[Y];exact .inr ⟨b,by simp,hk⟩
  have Q6:∀x,x∈pY->x∈r8 s b pY:=λx hx=>by
   unfold r8;split;exact hx;simp[hx]
  refine ⟨.fs _ _ _ c o cap vs e bw ja tn J (by rw[cF,<-U.length];exact hlen) (by simpa [eu] using hle) ?_,λx hx=>?_⟩;rw[cF];exact aj.mono (kn.sub Q6) (λ_ _=>rfl) (b8.le_refl _);have hx:x=b∨x∈pY:=by
   unfold r8 at hx;split at hx;exact .inr hx;simpa using hx
  rcases hx with rfl|hx
  exact ⟨⟨_,_,_,_,Y⟩,c,hk⟩;exact aH x hx;cases iK;cases iK;cases E;rename_i cs l c o cap vs e bw own aY aa Z m8 jM;simp only[cU,c4]at E;obtain ⟨rfl,rfl⟩:=E;exact ⟨.fs _ _ _ _ _ _ _ _ _ _ (jY _ aY) aa Z m8 (jM.mono jY (λ_ _=>rfl) (b8.le_refl _)),LZ⟩;rename_i cs c o vs e bw own aY aa Z jM;simp only[cU,c4]at E;obtain ⟨rfl,rfl⟩:=E;exact ⟨.fu _ _ _ _ _ _ _ _ (jY _ aY) aa Z (jM.mono jY (λ_ _=>rfl) (b8.le_refl _)),LZ⟩;rename_i f a b a8 a4 av Y;cases a with
  |nil=>cases b with
   |nil=>
    simp only[cU,c4]at E;obtain ⟨rfl,rfl⟩:=E;cases av;cases Y;exact ⟨.fn _ _ _ _ _ _ (.nil _) (.nil _),LZ⟩
   |cons _ _=>cases E
  |cons _ _=>cases E
  rename_i l l' Z;split at E;rename_i cs' pY aM;simp only[cU,c4]at E;obtain ⟨rfl,rfl⟩:=E;obtain ⟨aj,aH,bD⟩:=E8 a3 aM Z;exact ⟨.agg _ _ _ aj,aH⟩;cases E;rename_i l l' Z;split at E;rename_i cs' pY aM;simp only[cU,c4]at E;obtain ⟨rfl,rfl⟩:=E;obtain ⟨aj,aH,bD⟩:=E8 a3 aM Z;exact ⟨.da _ _ _ aj,aH⟩;cases E
theorem Gm:∀(bs:List Nat) (s:S),(mark bs s).n=s.n∧(mark bs s).ag=s.ag∧
  (∀d,(∃cs e bw own,s.h.get d=some (.cells cs e bw own)∧(d∈bs->(mark bs s).h.get d=some (.cells cs e bw false))∧(d∉bs->(mark bs s).h.get d=some (.cells cs e bw own)))∨
   ((∀cs e bw own,s.h.get d≠some (.cells cs e bw own))∧(mark bs s).h.get d=s.h.get d))
 |[],s=>by
  refine ⟨rfl,rfl,λd=>?_⟩;by_cases ai:∃cs e bw own,s.h.get d=some (.cells cs e bw own);obtain ⟨cs,e,bw,own,ai⟩:=ai;exact .inl ⟨cs,e,bw,own,ai,λh=>absurd h (by simp),λ_=>ai⟩;exact .inr ⟨λcs e bw own h=>ai ⟨cs,e,bw,own,h⟩,rfl⟩
 |b::bs,s=>by
  unfold mark;split;rename_i cs e bw own Y;obtain ⟨J,U,aj⟩:=Gm bs { s with h:=s.h.set b (.cells cs e bw false) };refine ⟨J,U,λd=>?_⟩;rcases aj d with ⟨cs',aZ,tO,ja,aB,aT,bp⟩|⟨aB,aT⟩
  simp only[]at aB;by_cases ai:d=b;subst ai;rw[aJ.jV]at aB;cases aB;refine .inl ⟨_,_,_,_,Y,λ_=>?_,λa5=>absurd (by simp) a5⟩;by_cases hm:d∈bs;exact aT hm;exact bp hm;rw[aJ.hj _ _ ai]at aB;refine .inl ⟨_,_,_,_,aB,λhm=>aT (by simpa [ai] using hm),λhm=>bp (λh=>hm (by simp[h]))⟩;simp only[]at aB aT;by_cases ai:d=b;subst ai;exact absurd (aJ.jV _ _ _) (aB cs e bw false);rw[aJ.hj _ _ ai]at aT;refine .inr ⟨λcs' aZ tO ja h=>?_,aT⟩;exact aB cs' aZ tO ja (by rw[aJ.hj _ _ ai];exact h);rename_i Y;obtain ⟨J,U,aj⟩:=Gm bs s;refine ⟨J,U,λd=>?_⟩;rcases aj d with ⟨cs',aZ,tO,ja,aB,aT,bp⟩|⟨aB,aT⟩
  have ai:d≠b:=by rintro rfl;exact Y _ _ _ _ aB
  exact .inl ⟨_,_,_,_,aB,λhm=>aT (by simpa [ai] using hm),λhm=>bp (λh=>hm (by simp[h]))⟩;exact .inr ⟨aB,aT⟩
theorem ao5(m:dP aq κ ak s s'){bs:List Nat}(Y:yd κ s bs):dP aq κ (kn κ ak bs) (mark bs s) s':=by
 obtain ⟨J,U,aj⟩:=Gm bs s;refine ⟨λd o c aE hk=>?_,λb c hk=>by rw[J];exact m.lt b c hk,m.inj,λd o c aE Z hk=>?_,?_,by rw[J,U];exact m.ag,m.pk,λd cs' aZ tO c ai hk=>?_⟩;rcases aj d with ⟨cs,e,bw,own,aB,aT,bp⟩|⟨aB,aT⟩
 obtain ⟨o',aH,vs,ja,rfl,bD,cF⟩:=m.obj d _ c aB hk;refine ⟨_,aH,?_⟩;by_cases hm:d∈bs;rw[aT hm]at aE;cases aE;exact ⟨vs,ja,rfl,bD.mono (kn.le bs) (λ_ _=>rfl) (b8.le_refl _),λh=>by cases h⟩;rw[bp hm]at aE;cases aE;exact ⟨vs,ja,rfl,bD.mono (kn.le bs) (λ_ _=>rfl) (b8.le_refl _),cF⟩;rw[aT]at aE;obtain ⟨o',aH,bD⟩:=m.obj d o c aE hk;exact ⟨o',aH,bD.mono (kn.le bs) (λ_ _=>rfl) (b8.le_refl _)⟩;rintro (aY|⟨b,P4,xq⟩);rcases aj d with ⟨cs,e,bw,own,aB,aT,bp⟩|⟨aB,aT⟩
 by_cases hm:d∈bs;rw[aT hm]at aE;cases aE;cases Z;rw[bp hm]at aE;cases aE;exact m.sep d _ c aB Z hk aY;rw[aT]at aE;exact m.sep d o c aE Z hk aY;obtain rfl:=m.inj b d c xq hk;obtain ⟨⟨cs,e,bw,own,iK⟩,_⟩:=Y b P4;rcases aj b with ⟨cs,e,bw,own,aB,aT,bp⟩|⟨aB,aT⟩
 rw[aT P4]at aE;cases aE;cases Z;exact aB _ _ _ _ iK;rintro c (aY|⟨b,P4,xq⟩);exact m.vh c aY;exact (m.lt b c xq).2;rcases aj d with ⟨cs,e,bw,own,aB,aT,bp⟩|⟨aB,aT⟩
 by_cases hm:d∈bs;exact .inr ⟨d,hm,hk⟩;rw[bp hm]at ai;cases ai;exact .inl (m.gl d _ _ _ c aB hk);rw[aT]at ai;exact absurd ai (aB _ _ _ _)
theorem Px:∀ {args sa:List V} {L:List Nat} {s aK:S} {ak:Nat->Prop} {ws:List Value},nI args s=(sa,L,aK)->dP aq κ ak s s'->c2 ak s'.h κ args ws->
  ∃cx,dP aq κ cx aK s'∧c2 cx s'.h κ sa ws∧aK.n=s.n∧aK.ag=s.ag∧(∀c,ak c->cx c)∧ ∀c,cx c->kn κ ak L c
 |[],_,_,s,aK,ak,ws,E,m,av=>by
  simp only[nI,c4]at E;obtain ⟨rfl,rfl,rfl⟩:=E;cases av;exact ⟨ak,m,.nil _,rfl,rfl,λ_ h=>h,λ_ h=>.inl h⟩
 |v::args,_,_,s,aK,ak,ws,E,m,av=>by
  cases av with
  |cons _ _ w _ ws ad Z=>
   unfold nI at E;split at E;rename_i v' bs aM;obtain ⟨aB,aT⟩:=J9 m 24 _ _ _ _ aM ad;have dR:=ao5 m aT;obtain ⟨J,U,_⟩:=Gm bs s;split at E;rename_i r l bc FX;simp only[c4]at E;obtain ⟨rfl,rfl,rfl⟩:=E;obtain ⟨cx,bp,eh,eo,g2,jy,oY⟩:=Px FX dR (Z.mono (kn.le bs) (λ_ _=>rfl) (b8.le_refl _));refine ⟨cx,bp,.cons _ _ _ _ _ (aB.mono jy (λ_ _=>rfl) (λ_ _ h=>by cases h)) eh,by rw[eo,J],by rw[g2,U],λc h=>jy c (.inl h),λc h=>?_⟩;rcases oY c h with (aj|⟨b,aj,aH⟩)|⟨b,aj,aH⟩
   exact .inl aj;exact .inr ⟨b,by simp[aj],aH⟩;exact .inr ⟨b,by simp[aj],aH⟩;split at E;rename_i r l bc FX;simp only[c4]at E;obtain ⟨rfl,rfl,rfl⟩:=E;obtain ⟨cx,bp,eh,eo,g2,jy,oY⟩:=Px FX m Z;exact ⟨cx,bp,.cons _ _ _ _ _ (ad.mono jy (λ_ _=>rfl) (b8.le_refl _)) eh,eo,g2,jy,oY⟩
theorem acm(hQ:dP aq κ ak s s')(x:Ext κ ak s s' bR cx aK bA)(dF:dP aq bR cx aK bA)(hw:s.n<=aK.ag)(uW:s.n<=s.ag)(od:∀c,c<s'.n->bA.h.get c=s'.h.get c)(v7:s'.n<=bA.ag)
  {bs:List Nat} (hold:AO s.n bs=true):
  Ext κ ak s s' κ (kn bR cx bs) s bA∧dP aq κ (kn bR cx bs) s bA∧(∀c,kn bR cx bs c->ak c∨s'.n<=c):=by
 have aY:∀c,kn bR cx bs c->ak c∨s'.n<=c:=by
  rintro c (J|⟨b,J,U⟩);rcases x.DV c J with aj|aj|⟨b,aj,aH⟩
  exact .inl aj;exact .inr aj;have:=hQ.lt b c aj;omega;unfold AO at hold;rw[fj]at hold;have:=hold b J;exact .inr (x.new b c (by simpa [eu] using this) U)
 have Rv:∀c,ak c->kn bR cx bs c:=λc h=>.inl (x.tV c h);have Rm:=hQ.ag;refine ⟨⟨cg _,x.sD,λ_ _=>rfl,λb c J U=>by have:=hQ.lt b c U;omega,Rv,λc h=>x.sN c h,λc h=>?_,cg _,λhH sd _ _ aj=>D⟩,
  ⟨λb o c aE hk=>?_,λb c hk=>?_,hQ.inj,λb o c aE Z hk h=>?_,?_,⟨hQ.ag.1,dF.ag.2⟩,hQ.pk,λb cs e bw c Y hk=>Rv c (hQ.gl b cs e bw c Y hk)⟩,aY⟩
 rcases aY c h with J|J
 exact .inl J;exact .inr (.inl J);obtain ⟨o',J,U⟩:=hQ.obj b o c aE hk;exact ⟨o',by rw[od c (hQ.lt b c hk).2];exact J,U.mono Rv (λc h=>x.sN c h) (b8.le_refl _)⟩;have:=hQ.lt b c hk;have:=x.sD;exact ⟨D,D⟩;rcases aY c h with J|J
 exact hQ.sep b o c aE Z hk J;have:=hQ.lt b c hk;omega;rintro c (J|⟨b,_,U⟩);exact dF.vh c J;exact (dF.lt b c U).2
theorem ack(hQ:dP aq κ ak s s')(x:Ext κ ak s s' bR cx aK bA)(dF:dP aq bR cx aK bA)(hw:s.n<=aK.ag)(uW:s.n<=s.ag)(od:∀c,c<s'.n->bA.h.get c=s'.h.get c)(v7:s'.n<=bA.ag)
  {v v':V} {w:Value} (ad:R cx bA.h bR v w) (al:rQ s aK v=some (v',iD)):∃hN hS,Ext κ ak s s' hN hS iD bA∧dP aq hN hS iD bA∧R hS bA.h hN v' w:=by
 unfold rQ at al;split at al;rename_i my bs aM;split at al;rename_i hold;simp only[cU,c4]at al;obtain ⟨rfl,rfl⟩:=al;obtain ⟨aB,aT⟩:=J9 dF 24 _ _ _ _ aM ad;obtain ⟨J,U,_⟩:=acm hQ x dF hw uW od v7 hold;exact ⟨κ,_,J,U,aB.mono (λ_ h=>h) (λ_ _=>rfl) (λ_ _ h=>by cases h)⟩;cases al;cases al
theorem aqj(hQ:dP aq κ ak s s')(x:Ext κ ak s s' bR cx aK bA)(dF:dP aq bR cx aK bA)(hw:s.n<=aK.ag)(uW:s.n<=s.ag)(od:∀c,c<s'.n->bA.h.get c=s'.h.get c)(v7:s'.n<=bA.ag)
  {v v':V} {w:Value} (ad:R cx bA.h bR v w) (al:pack s aK v=some (v',iD)):∃hN hS,Ext κ ak s s' hN hS iD bA∧dP aq hN hS iD bA∧R hS bA.h hN v' w:=by
 unfold pack at al;split at al;rename_i b o l cap z;split at al;rename_i cs e bw Y;split at al;rename_i cs' bs aM;split at al;rename_i aa;simp only[cU,c4]at al;obtain ⟨rfl,rfl⟩:=al;simp only[dU,eu]at aa;obtain ⟨a5,hold,QN⟩:=aa;cases ad with
 |bx _ _ _ _ _ _ c hk=>
  obtain ⟨J,U,aj⟩:=acm hQ x dF hw uW od v7 hold;have KK:s'.n<=c:=x.new b c a5 hk;obtain ⟨o',aH,vs,ja,rfl,bD,cF⟩:=dF.obj b _ c Y hk;obtain ⟨aB,aT,_⟩:=E8 (J9 dF 24) aM bD;have QP: ¬kn bR cx bs c:=by
   rintro (h|⟨d,dV,fL⟩);exact dF.sep b _ c Y rfl hk h;obtain rfl:=dF.inj d b c fL hk;unfold R9 at QN;rw[fj]at QN;have:=QN d dV;simp at this
  have b6:=dF.lt b c hk;have hle:κ.le (κ.add s.n c):=λd e ai=>by
   have:=hQ.lt d e ai;rw[b8.j7 _ _ D];exact ai
  refine ⟨κ.add s.n c,kn bR cx bs,⟨by simp[newObj],J.sD,λd ai=>b8.j7 _ _ D,λd e dV fL=>?_,J.tV,J.sN,J.DV,cg _,λhH sd _ _ jH=>?_⟩,
   ⟨λd u4 e dV fL=>?_,λd e dV=>?_,λd bK e dV fL=>?_,λd u4 e dV fL jH=>?_,U.vh,⟨by have:=hQ.ag.1;simp[newObj];omega,dF.ag.2⟩,λg au=>?_,λd JT ba avL f dV fL=>?_⟩,.bx _ _ _ _ _ _ _ (b8.add_same _ _ _)⟩
  by_cases ai:d=s.n;subst ai;rw[b8.add_same]at fL;cases fL;exact KK;rw[b8.j7 _ _ ai]at fL;have:=hQ.lt d e fL;omega;have:=hQ.ag.2;omega;simp only[newObj]at dV;by_cases ai:d=s.n;subst ai;rw[aJ.jV]at dV;cases dV;rw[b8.add_same]at fL;cases fL;exact ⟨_,aH,vs,ja,rfl,aB.mono (λ_ h=>h) (λ_ _=>rfl) (λ_ _ h=>by cases h),λ_=>cF rfl⟩;rw[aJ.hj _ _ ai]at dV;rw[b8.j7 _ _ ai]at fL;obtain ⟨Gx,jH,tf⟩:=U.obj d u4 e dV fL;exact ⟨Gx,jH,tf.mono (λ_ h=>h) (λ_ _=>rfl) hle⟩;by_cases ai:d=s.n;subst ai;rw[b8.add_same]at dV;cases dV;simp only[newObj];omega;rw[b8.j7 _ _ ai]at dV;have:=U.lt d e dV;simp only[newObj];omega;by_cases ai:d=s.n;by_cases eP:bK=s.n;omega;subst ai;rw[b8.add_same]at dV;cases dV;rw[b8.j7 _ _ eP]at fL;have:=hQ.lt bK _ fL;omega;rw[b8.j7 _ _ ai]at dV;by_cases eP:bK=s.n;subst eP;rw[b8.add_same]at fL;cases fL;have:=hQ.lt d _ dV;omega;rw[b8.j7 _ _ eP]at fL;exact hQ.inj d bK e dV fL;simp only[newObj]at dV;by_cases ai:d=s.n;subst ai;rw[b8.add_same]at jH;cases jH;exact QP;rw[aJ.hj _ _ ai]at dV;rw[b8.j7 _ _ ai]at jH;exact U.sep d u4 e dV fL jH;have:=hQ.lt g g (hQ.pk g au);rw[b8.j7 _ _ D];exact hQ.pk g au;simp only[newObj]at dV;by_cases ai:d=s.n;subst ai;rw[aJ.jV]at dV;cases dV;rw[aJ.hj _ _ ai]at dV;rw[b8.j7 _ _ ai]at fL;exact U.gl d _ _ _ f dV fL
 cases al;cases al;exact ack hQ x dF hw uW od v7 ad al;cases al;exact ack hQ x dF hw uW od v7 ad al
end
section
variable {ak m4:Nat->Prop}{h h':aJ hs}{κ hY:b8}{aq:Nat}{s bc aK iD:S}{s' bA o6:b9}{bR hN:b8}{cx hS:Nat->Prop}{T:Types}
theorem abD(a b:Reach):a.meets b=true↔a≠some []∧b≠some []∧(a=none∨b=none∨ ∃l m x,a=some l∧b=some m∧x∈l∧x∈m):=by
 cases a with
 |none=>cases b with
  |none=>simp[Reach.meets]
  |some m=>cases m with
   |nil=>simp[Reach.meets]
   |cons x m=>simp[Reach.meets]
 |some l=>cases l with
  |nil=>simp[Reach.meets]
  |cons y l=>cases b with
   |none=>simp[Reach.meets]
   |some m=>cases m with
    |nil=>simp[Reach.meets]
    |cons x m=>
     simp only[Reach.meets,tY,List.contains_iff_mem];constructor;rintro ⟨z,J,U⟩;exact ⟨by simp,by simp,.inr (.inr ⟨_,_,z,rfl,rfl,J,U⟩)⟩;rintro ⟨_,_,h|h|⟨l',jA,z,J,U,aj,aH⟩⟩;cases h;cases h;cases J;cases U;exact ⟨z,aj,aH⟩
def w3(κ:b8)(ak:Nat->Prop)(x y:Reach):Prop:=
 match x,y with
 |none,_=>True
 |some l,some m=> ∀c∈m,(∃b∈l,κ b=some c)∨(ak c∧l≠ [])
 |some _,none=>False
def Jo(κ:b8)(x y:Reach):Prop:=y=some []∨(x=none∧y=none)∨ ∃l m,x=some l∧y=some m∧ ∀c∈m,∃b∈l,κ b=some c
structure zB(κ:b8)(ak:Nat->Prop)(n jl:Nat)(x:ct)(y:fM):Prop where
 t:w3 κ ak x.f.t y.t
 w:Jo κ x.f.w y.w
 lo:∀b c,κ b=some c->(y.lo<=c↔x.f.lo<=b)
 hi:∀b c,κ b=some c->(c<y.hi↔b<x.f.hi)
 WM:y.lo<y.hi->x.f.t=none∨x.f.lo<x.f.hi
 le:x.f.lo<=n∧x.f.hi<=n∧y.lo<=jl∧y.hi<=jl
 aee:∀l,x.f.w=some l-> ∀b∈l,b<n
theorem zB.mono{x:ct}{y:fM}(r:zB κ ak s.n s'.n x y)(m:dP aq κ ak s s')(e:Ext κ ak s s' bR cx aK bA):zB bR cx aK.n bA.n x y:=by
 have hle:=e.le m;have old:∀b c,bR b=some c->κ b=some c∨(s.n<=b∧s'.n<=c):=λb c Y=>by
  by_cases h:b<s.n;rw[e.sw b h]at Y;exact .inl Y;exact .inr ⟨D,e.new b c D Y⟩
 have a5:=e.n;have auV:=e.sD;have Z:=r.le;refine ⟨?_,?_,λb c Y=>?_,λb c Y=>?_,r.WM,⟨D,D,D,D⟩,λl Z b Y=>by have:=r.aee l Z b Y;omega⟩;have:=r.t;unfold w3 at this ⊢;split at this;trivial;intro c aa;rcases this c aa with ⟨b,J,U⟩|⟨J,U⟩
 exact .inl ⟨b,J,hle _ _ U⟩;exact .inr ⟨e.tV c J,U⟩;exact this;rcases r.w with h|h|⟨l,jA,J,U,aj⟩
 exact .inl h;exact .inr (.inl h);exact .inr (.inr ⟨l,jA,J,U,λc aa=>let ⟨b,aH,bD⟩:=aj c aa;⟨b,aH,hle _ _ bD⟩⟩);rcases old b c Y with h|⟨J,U⟩
 exact r.lo b c h;constructor<;>intro<;>omega;rcases old b c Y with h|⟨J,U⟩
 exact r.hi b c h;constructor<;>intro<;>omega
inductive mE(κ:b8)(ak:Nat->Prop)(n jl:Nat):List ct->List fM->Prop
 |nil:mE κ ak n jl [] []
 |cons (x:ct) (y:fM) (l:List ct) (l':List fM) (hx:zB κ ak n jl x y) (Z:mE κ ak n jl l l'):mE κ ak n jl (x::l) (y::l')
theorem mE.mono{l:List ct}{l':List fM}(m:dP aq κ ak s s')(e:Ext κ ak s s' bR cx aK bA)(r:mE κ ak s.n s'.n l l'):mE bR cx aK.n bA.n l l':=by
 induction r with
 |nil=>exact .nil
 |cons x y l l' hx _ a3=>exact .cons _ _ _ _ (hx.mono m e) a3
theorem mE.append{n jl:Nat}{a b:List ct}{a8 a4:List fM}(av:mE κ ak n jl a a8)(Y:mE κ ak n jl b a4):mE κ ak n jl (a++b) (a8++a4):=by
 induction av with
 |nil=>exact Y
 |cons x y l l' hx _ a3=>exact .cons _ _ _ _ hx a3
theorem mE.reverse{n jl:Nat}{a:List ct}{a8:List fM}(av:mE κ ak n jl a a8):mE κ ak n jl a.reverse a8.reverse:=by
 induction av with
 |nil=>exact .nil
 |cons x y l l' hx _ a3=>
  simp only[MW];exact a3.append (.cons _ _ _ _ hx .nil)
theorem mE.get{n jl:Nat}{a:List ct}{a8:List fM}(av:mE κ ak n jl a a8):∀ {i:Nat} {y:fM},a8[i]? =some y-> ∃x,a[i]? =some x∧zB κ ak n jl x y:=by
 induction av with
 |nil=>intro i y h;simp at h
 |cons x y l l' hx _ a3=>
  intro i z h;cases i with
  |zero=>simp at h;subst h;exact ⟨x,rfl,hx⟩
  |succ i=>simp at h;simpa using a3 h
def w4(κ:b8)(ak:Nat->Prop)(l:List ct):Prop:= ∀x∈l,∀ws,x.f.w=some ws-> ∀b∈ws,∀c,κ b=some c->ak c->(∃y∈l,b∈y.z)∨ ∃y∈l,y.f.w=none
theorem w4.nil(κ:b8)(ak:Nat->Prop):w4 κ ak []:=λx hx=>absurd hx (by simp)
theorem aiU{n jl:Nat}{x vg:ct}{y x3:fM}(Aj:∀b a4 c,κ b=some c->κ a4=some c->b=a4)(r:zB κ ak n jl x y)(pE:zB κ ak n jl vg x3)
  (aY:∀ws,x.f.w=some ws-> ∀b∈ws,∀c,κ b=some c-> ¬ak c) (aa:y.lK x3=true):x.f.lK vg.f=true:=by
 unfold fM.lK at aa ⊢;simp only[r1,abD]at aa ⊢;have asg:∀ {m:List Nat} {c:Nat},x3.t=some m->c∈m->vg.f.t≠some []:=λ{m c} hm aa he=>by
  have:=pE.t;unfold w3 at this;rw[he,hm]at this;rcases this c aa with ⟨b,J,_⟩|⟨_,J⟩
  cases J;exact J rfl
 have adR:x3.t=none->vg.f.t=none:=λhe=>by
  have:=pE.t;unfold w3 at this;rw[he]at this;cases hx:vg.f.t with
  |none=>rfl
  |some l=>rw[hx]at this;exact this.elim
 have adQ:x3.t≠some []->vg.f.t≠some []:=λhe=>by
  cases aI:x3.t with
  |none=>rw[adR aI];simp
  |some m=>cases m with
   |nil=>exact absurd aI he
   |cons c m=>exact asg aI (by simp:c∈c::m)
 have aef:x3.w≠some []->vg.f.w≠some []:=λhe=>by
  rcases pE.w with h|⟨h,_⟩|⟨l,m,J,U,aj⟩
  exact absurd h he;rw[h];simp;rw[J];rintro e;cases e;cases m with
  |nil=>exact he U
  |cons c m=>obtain ⟨b,aH,_⟩:=aj c (by simp);cases aH
 rcases r.w with hw|⟨C0,Rs⟩|⟨l,m,C0,Rs,hm⟩
 rw[hw]at aa;simp at aa;rw[C0];rw[Rs]at aa;rcases aa with (⟨_,J,_⟩|⟨_,J,_⟩)|J
 exact .inl (.inl ⟨by simp,adQ J,.inl rfl⟩);exact .inl (.inr ⟨by simp,aef J,.inl rfl⟩);simp only[gy]at J;rcases pE.WM J with U|U
 exact .inl (.inl ⟨by simp,by rw[U];simp,.inl rfl⟩);exact .inr (by simpa [gy] using U);rw[C0];rw[Rs]at aa;rcases aa with (⟨aR,J,U⟩|⟨aR,J,U⟩)|J
 have Z:l≠ []:=by
  rintro rfl;cases m with
  |nil=>exact aR rfl
  |cons c m=>obtain ⟨b,aH,_⟩:=hm c (by simp);cases aH
 refine .inl (.inl ⟨by simpa using Z,adQ J,?_⟩);rcases U with U|U|⟨l',jA,c,aj,aH,bD,cF⟩
 cases U;exact .inr (.inl (adR U));cases aj;have aO:=pE.t;unfold w3 at aO;rw[aH]at aO;obtain ⟨b,dV,fL⟩:=hm c bD;cases hx:vg.f.t with
 |none=>exact .inr (.inl rfl)
 |some k=>
  rw[hx]at aO;rcases aO c cF with ⟨a4,jH,tf⟩|⟨jH,_⟩
  obtain rfl:=Aj b a4 c fL tf;exact .inr (.inr ⟨_,_,b,rfl,rfl,dV,jH⟩);exact absurd jH (aY l C0 b dV c fL)
 have Z:l≠ []:=by
  rintro rfl;cases m with
  |nil=>exact aR rfl
  |cons c m=>obtain ⟨b,aH,_⟩:=hm c (by simp);cases aH
 refine .inl (.inr ⟨by simpa using Z,aef J,?_⟩);rcases U with U|U|⟨l',jA,c,aj,aH,bD,cF⟩
 cases U;rcases pE.w with h|⟨h,_⟩|⟨_,_,_,h,_⟩
 exact absurd h J;exact .inr (.inl h);rw[U]at h;cases h;cases aj;obtain ⟨b,dV,fL⟩:=hm c bD;rcases pE.w with h|⟨h,_⟩|⟨AG,m₂,jH,tf,Kv⟩
 exact absurd h J;exact .inr (.inl h);rw[aH]at tf;cases tf;obtain ⟨a4,akU,akV⟩:=Kv c cF;obtain rfl:=Aj b a4 c fL akV;exact .inr (.inr ⟨_,_,b,rfl,jH,dV,akU⟩);simp only[tY,dU,eu,gy]at J;obtain ⟨c,U,aj,aH⟩:=J;obtain ⟨b,bD,cF⟩:=hm c U;refine .inr ?_;simp only[tY,dU,eu,gy];exact ⟨b,bD,(pE.lo b c cF).1 aj,(pE.hi b c cF).1 aH⟩
theorem ajq{n jl:Nat}{ops:Array Oper}{l:List ct}{l':List fM}(Aj:∀b a4 c,κ b=some c->κ a4=some c->b=a4)(r:mE κ ak n jl l l')(aY:w4 κ ak l)(ai:yr ops l=true):
  uz ops l'=true:=by
 unfold yr at ai;simp only[dU]at ai;obtain ⟨ai,Lt⟩:=ai;unfold zr at Lt;simp only[dU,r1]at Lt;have QP:∀x∈l,∀ws,x.f.w=some ws-> ∀b∈ws,∀c,κ b=some c-> ¬ak c:=by
  intro x hx ws hw b Y c hk Ax;rcases aY x hx ws hw b Y c hk Ax with ⟨y,J,U⟩|⟨y,J,U⟩
  have aj:=Lt.1;rw[fj]at aj;have aH:=aj y J;split at aH;rename_i he;rw[he]at U;cases U;rename_i z aY;rw[fj]at aH;have bD:=aH x hx;have:Reach.meets x.f.w (some y.z)=true:=by
   rw[abD,hw];exact ⟨(by rintro e;cases e;cases Y),(by intro e;rw[cU]at e;rw[e]at U;cases U),.inr (.inr ⟨_,_,b,rfl,rfl,Y,U⟩)⟩
  rw[this]at bD;cases bD;rcases Lt.2 with aj|aj
  rw[fj]at aj;have:=aj y J;rw[U]at this;cases this;rw[fj]at aj;have:=aj x hx;rw[hw]at this;cases ws with
  |nil=>cases Y
  |cons _ _=>cases this
 unfold uz at ai ⊢;rw[fj]at ai ⊢;intro p al;obtain ⟨y,i⟩:=p;rw[nx]at al;obtain ⟨x,hx,anH⟩:=r.get al;have anE:(x.f,i)∈(l.map (·.f)).zipIdx:=by
  rw[nx];simp[hx]
 have J:=ai _ anE;simp only[]at J ⊢;split;rfl;rename_i ey;rw[fj];intro q a7;obtain ⟨x3,j⟩:=q;rw[nx]at a7;obtain ⟨vg,anK,anI⟩:=r.get a7;have anF:(vg.f,j)∈(l.map (·.f)).zipIdx:=by
  rw[nx];simp[anK]
 simp only[];cases kb:y.lK x3 with
 |false=>rfl
 |true=>
  have hm:x∈l:=hR hx;have U:=aiU Aj anH anI (QP x hm) kb;have aj:x.f.w≠some []:=by
   intro e;unfold fM.lK at U;rw[e]at U;simp[Reach.meets]at U
  split at J;rename_i e;exact absurd e aj;rw[fj]at J;have aH:=J _ anF;simp only[U]at aH;simpa using aH
end
end Go.ah.X
