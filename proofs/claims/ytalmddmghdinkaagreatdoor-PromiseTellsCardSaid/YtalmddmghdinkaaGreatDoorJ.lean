/-
  A part: lemmas; conditions: those that each names.
-/
import Derived.Test.YtalmddmghdinkaaGreatDoorI
set_option linter.all false
set_option linter.deprecated false
noncomputable section
namespace Go.ah.X
open Go
section
variable {T:Types}{s aK:S}{ρ dq:Operand->V}
theorem xF{f:IntKind->Int->Int->Option V}{x y v:V}(h:nQ f x y=some v):∃k a b,x=.int k a∧y=.int k b∧f k a b=some v:=by
 unfold nQ at h;cases x with
 |int k a=>
  cases y with
  |int k' b=>
   simp only[]at h;split at h;rename_i hk;have:k=k':=by simpa using hk
   subst this;exact ⟨k,a,b,rfl,rfl,h⟩;cases h
  |_=>cases h
 |_=>cases h
theorem ajK{t:Option cb}{x y v:V}(h:vK t true x y=some v):bin .eql t x y=some v:=by
 unfold vK at h;split at h;rename_i k a;cases y with
 |int k' b=>
  simp only[]at h;split at h;rename_i hk;have:k=k':=by simpa using hk
  subst this;rw[<-h,ahH,vJ];cases a == b<;>rfl;cases h
 |_=>cases h
 exact h
theorem ajJ{t:Option cb}{x y v:V}(h:vK t false x y=some v):bin .neq t x y=some v:=by
 unfold vK at h;split at h;rename_i k a;cases y with
 |int k' b=>
  simp only[]at h;split at h;rename_i hk;have:k=k':=by simpa using hk
  subst this;rw[<-h,ahN,vJ,bne];cases a == b<;>rfl;cases h
 |_=>cases h
 exact h
theorem ahF{op:BinOp}{t:Option cb}{x y v:V}(h:bH op t x y=some v):bin op t x y=some v:=by
 unfold bH at h;split at h;obtain ⟨k,a,b,rfl,rfl,U⟩:=xF h;rw[ahG,<-U,wH];obtain ⟨k,a,b,rfl,rfl,U⟩:=xF h;rw[ahR,<-U,wH];obtain ⟨k,a,b,rfl,rfl,U⟩:=xF h;rw[ahM,<-U,wH];obtain ⟨k,a,b,rfl,rfl,U⟩:=xF h;rw[ahO,<-U,vJ,wH];have e:(b == Int.ofNat 0)=decide (b=0):=rfl;rw[e];by_cases Y:b=0<;>simp[Y];obtain ⟨k,a,b,rfl,rfl,U⟩:=xF h;rw[ahP,<-U,vJ];have e:(b == Int.ofNat 0)=decide (b=0):=rfl;rw[e];by_cases Y:b=0<;>simp[Y];obtain ⟨k,a,b,rfl,rfl,U⟩:=xF h;rw[ahL,<-U,LS];obtain ⟨k,a,b,rfl,rfl,U⟩:=xF h;rw[ahK,<-U,LO];obtain ⟨k,a,b,rfl,rfl,U⟩:=xF h;rw[ahJ,<-U,LS];obtain ⟨k,a,b,rfl,rfl,U⟩:=xF h;rw[ahI,<-U,LO];exact ajK h;exact ajJ h;exact h
theorem abn{ti:cb}{p v:V}(h:(match ti.isAgg with
  |true=>bf ti.size s p
  |false=>cZ s p)=some v):loadT ti s p=some v:=by
 unfold loadT;split at h;rename_i av;rw[av];exact h;rename_i av;rw[av];exact h
theorem L7{ti:cb}{off:Nat}{cs:List V}{v:V}(h:(match ti.isAgg with
  |true=>Sg off ti.size cs
  |false=>Sh off cs)=some v):part ti cs off=some v:=by
 unfold part;split at h;rename_i av;rw[av];exact h;rename_i av;rw[av];exact h
theorem Gd{i:Int}{n:Nat}(h:wb i n=true):0<=i∧i<n:=by
 unfold wb at h;split at h;rw[gy]at h;simp only[Int.ofNat_eq_natCast];omega;cases h
theorem Pn:∀ {ps:List (Nat×Nat×V)} {cs:List V} {v:V},bW cs ps=some v-> ∃l,v=.agg l
 |[],cs,v,h=>by simp only[bW,cU]at h;exact ⟨_,h.symm⟩
 |(o,z,x)::ps,cs,v,h=>by
  unfold bW at h;split at h;cases h;split at h;exact Pn h;cases h
theorem Yg{ew:List (Nat×Nat)} :∀ {ps:List (Nat×Operand)} {l:List (Nat×Nat×V)} {cs r:List V},GB T ew ρ ps=some l->bW cs l=some (.agg r)->
  mf (λi=>match ew.drop i with
   |(jU,off)::_=>match T.get jU with
    |some ti=>some (off,ti.size)
    |none=>none
   |[]=>none) cs (ps.map λp=>(p.1,ρ p.2))=some r
 |[],l,cs,r,h,h'=>by
  simp only[GB,cU]at h;subst h;simp only[bW,cU,V.agg.injEq]at h';subst h';rfl
 |(i,x)::ps,l,cs,r,h,h'=>by
  unfold GB at h;split at h;rename_i jU off rest ai;split at h;rename_i ti aO;split at h;rename_i l' Z;cases h;unfold bW at h';simp only[jE];unfold mf;simp only[ai,aO];split at h';cases h';rename_i Y;split at h';rename_i aa;split;rename_i e;exact absurd e Y;simp only[aa];exact Yg Z h';cases h';cases h;cases h;cases h
theorem Pm{z:Nat} :∀ {ps:List (Nat×Operand)} {cs r:List V},bW cs (Dr z ρ ps)=some (.agg r)->
  mf (λi=>some (i*z,z)) cs (ps.map λp=>(p.1,ρ p.2))=some r
 |[],cs,r,h'=>by
  simp only[Dr,bW,cU,V.agg.injEq]at h';subst h';rfl
 |(i,x)::ps,cs,r,h'=>by
  unfold Dr bW at h';simp only[jE];unfold mf;simp only[];split at h';cases h';rename_i Y;split at h';rename_i aa;split;rename_i e;exact absurd e Y;simp only[aa];exact Pm h';cases h'
theorem tS{o:Op}{x:Option V}{v:V}(av:BW ρ o=false)(he:evalOp T ρ { s with ag:=s.n } o=one x { s with ag:=s.n })(hx:x=some v):x1 T ρ s o=some v:=by
 unfold x1;rw[av,he,hx];rfl
theorem MJ{o:Op}{v:V}(av:BW ρ o=false)(he:evalOp T ρ { s with ag:=s.n } o=some (.val v, { s with ag:=s.n })):x1 T ρ s o=some v:=by
 unfold x1;rw[av,he]
theorem MK{o:Op}{v:V}(h:G8 T ρ s o=some v):x1 T ρ s o=some v:=by
 cases o<;>simp only[G8]at h<;>try (cases h;done)
 case binOp op t x y mR=>exact tS rfl rfl (ahF h)
 case unOp op t x=>exact tS rfl rfl h
 case load t a=>
  split at h;rename_i ti aO;refine tS (x:=loadT ti { s with ag:=s.n } (ρ a)) rfl (by simp only[evalOp,aO]) ?_;exact abn (s:= { s with ag:=s.n }) h;cases h
 case fieldAddr t x f=>
  refine tS (x:=s5 T t (ρ x) f) rfl rfl ?_;unfold s5;split at h;rename_i ti aO;obtain ⟨kf,o5,nF,z⟩:=ti;rw[aO];cases kf<;>simp only[]at h ⊢ <;>first|(cases h;done)|skip
  split at h;rename_i jU off r aM;split at h;rename_i Ta F0;split at h;rename_i iN;simp only[aM,F0,iN];unfold a6 at h;split at h;rename_i hx;simp only[hx];exact h;rename_i hx;simp only[hx];exact h;cases h;cases h;cases h;cases h;cases h
 case field t x f=>
  refine tS (x:=s6 T t (ρ x) f) rfl rfl ?_;unfold s6;split at h;rename_i ti aO;obtain ⟨kf,o5,nF,z⟩:=ti;rw[aO];cases kf<;>simp only[]at h<;>first|(cases h;done)|skip
  split at h;rename_i jU off r aM;split at h;rename_i Ta F0;have key:∃cs,ρ x=.agg cs∧part Ta cs off=some v:=by
   cases av:Ta.isAgg with
   |true=>
    rw[av]at h;simp only[Yb]at h;split at h;rename_i cs aa;exact ⟨cs,aa,L7 (by rw[av];exact h)⟩;cases h
   |false=>
    rw[av]at h;simp only[Yc]at h;split at h;rename_i cs aa;exact ⟨cs,aa,L7 (by rw[av];exact h)⟩;cases h
  obtain ⟨cs,J,U⟩:=key;simp only[J,aM,F0];exact U;cases h;cases h;cases h
 case indexAddr t x i=>
  refine tS (x:=tz T t (ρ x) (ρ i)) rfl rfl ?_;unfold tz;split at h;rename_i ti aO;obtain ⟨kf,o5,nF,z⟩:=ti;rw[aO];cases kf<;>simp only[]at h<;>first|(cases h;done)|skip
  split at h;rename_i te dv;unfold dW at h;split at h;rename_i dt hi;rw[hi];split at h;rename_i hx;rw[hx];split at h;rename_i E;simp only[dv,if_pos (Gd E)];exact h;cases h;rename_i hx;rw[hx];split at h;rename_i E;simp only[dv,if_pos (Gd E)];exact h;cases h;cases h;cases h;cases h;split at h;rename_i te dv;unfold nR at h;split at h;rename_i dt hi;rw[hi];split at h;rename_i E;split at h;rename_i hx;rw[hx];simp only[dv,if_pos (Gd E)];exact h;rename_i hx;rw[hx];simp only[dv,if_pos (Gd E)];exact h;cases h;cases h;cases h;cases h;cases h
 case index t x i=>
  refine tS (x:=sv T t (ρ x) (ρ i)) rfl rfl ?_;split at h;rename_i ti aO;obtain ⟨kf,o5,nF,z⟩:=ti;cases kf<;>simp only[]at h<;>first|(cases h;done)|exact h|skip
  rename_i n e;unfold sv;rw[aO];split at h;rename_i te dv;have key:∃cs q dt,ρ x=.agg cs∧ρ i=.int q dt∧wb dt n=true∧part te cs (dt.toNat*te.size)=some v:=by
   cases av:te.isAgg with
   |true=>
    rw[av]at h;simp only[C5]at h;split at h;rename_i q dt hi;split at h;rename_i E;split at h;rename_i cs aa;exact ⟨cs,q,dt,aa,hi,E,L7 (by rw[av];exact h)⟩;cases h;cases h;cases h
   |false=>
    rw[av]at h;simp only[aaP]at h;split at h;rename_i q dt hi;split at h;rename_i E;split at h;rename_i cs aa;exact ⟨cs,q,dt,aa,hi,E,L7 (by rw[av];exact h)⟩;cases h;cases h;cases h
  obtain ⟨cs,q,dt,J,U,aj,aH⟩:=key;simp only[J,U,dv,if_pos (Gd aj)];exact aH;cases h;cases h
 case slice t x lo hi dk=>
  have key:∀lo hi dk:Option V,(match T.get t with
   |some ti=>match ti.kind with
    |.slice e=>match T.get e with
     |some te=>jn te.size (ρ x) lo hi dk
     |none=>none
    |_=>nU T t (ρ x) lo hi dk
   |none=>none)=some v->nU T t (ρ x) lo hi dk=some v:=by
   intro lo hi dk h;split at h;rename_i ti aO;split at h;rename_i e hk;split at h;rename_i te dv;unfold nU;rw[aO];simp only[hk];unfold jn at h;split at h;rename_i hx;rw[hx];simp only[dv];exact h;rename_i hx;rw[hx];simp only[dv];exact h;rename_i hx;rw[hx];simp only[dv];exact h;cases h;cases h;exact h;cases h
  cases hi with
  |none=>cases dk with
   |none=>exact tS rfl rfl (key _ _ _ h)
   |some _=>cases h
  |some y=>exact tS rfl rfl (key _ _ _ h)
 case build t ps=>
  refine tS (x:=s3 T t (lA ρ ps)) rfl rfl ?_;unfold s3 lA;split at h;rename_i ti aO;simp only[aO];split at h;rename_i ew hk;split at h;rename_i l Z;obtain ⟨r,rfl⟩:=Pn h;have:=Yg (ρ:=ρ) Z h;simp only[hk];split;rename_i AG nf;have e:some AG=some r:=nf.symm.trans this;cases e;rfl;rename_i nf;have e:none=some r:=nf.symm.trans this;cases e;cases h;rename_i n e hk;split at h;rename_i te dv;obtain ⟨r,rfl⟩:=Pn h;have:=Pm (ρ:=ρ) h;simp only[hk,dv];rw[this];cases h;cases h;cases h
 case lookup t x i ok=>exact tS (x:=sz T t { s with ag:=s.n } (ρ x) (ρ i) ok) rfl rfl h
 case extract t i=>
  unfold dS at h;split at h;rename_i vs ad;split at h;rename_i w r ai;cases h;exact MJ rfl (by simp only[evalOp,ad,ai]);cases h;cases h
 case nilCheck x=>
  unfold abP at h;split at h;all_goals first|(cases h;done)|skip
  all_goals
   rename_i hx;cases h;exact MJ rfl (by simp only[evalOp,hx])
 case makeFunc fn a b=>
  split at h;unfold n2 at h;split at h;cases h;rename_i Y;cases h;exact MJ Y rfl;cases h
 case convert a b x=>
  split at h;rename_i S8 anl;split at h;rename_i RL ZX;split at h;rename_i tQ anm;split at h;rename_i Gh sk;unfold mc at h;split at h;rename_i q n hx;cases h;obtain ⟨avj,avN,lJ,awt⟩:=S8;obtain ⟨avk,avO,gd,aew⟩:=tQ;simp only[]at ZX sk;subst ZX sk;refine MJ rfl ?_;simp only[evalOp,n1,anl,anm,hx,two,wH];cases h;cases h;cases h;cases h;cases h
 case call c=>
  have bad:∀ {b:Builtin},c.callee=.builtin b->(c.args.toList.map ρ).any en=false-> ∀ {x:Option V},iR T b c.argTypes.toList (c.args.toList.map ρ) { s with ag:=s.n } =one x { s with ag:=s.n } ->x=some v->x1 T ρ s (.call c)=some v:=by
   intro b Y h8 x Zs hx;refine tS (x:=x) rfl ?_ hx;simp only[evalOp,ix,Y,h8];exact Zs
  split at h
  ·rename_i aa;split at h
   ·rename_i t x lQ has;split at h
    ·rename_i ti aO;obtain ⟨kf,o5,nF,z⟩:=ti;have h8:ρ x≠ .bad->(c.args.toList.map ρ).any en=false:=λY=>by
      rw[has];simp only[jE,oz,D0,List.any_nil,Bool.or_false];cases hx:ρ x<;>first|rfl|exact absurd hx Y
     cases kf<;>simp only[]at h<;>first|(cases h;done)|skip
     ·unfold abr at h;split at h;rename_i st hx;refine bad aa (h8 (by rw[hx];simp)) (x:=some v) ?_ rfl;cases h;simp only[iR,lQ,has,jE,oz,aO,hx,one];cases h
     ·unfold fP at h;split at h;all_goals first|(cases h;done)|skip
      all_goals
       rename_i hx;refine bad aa (h8 (by rw[hx];simp)) (x:=some v) ?_ rfl;cases h;simp only[iR,lQ,has,jE,oz,aO,hx,one]
     unfold abq at h;split at h;cases h;rename_i hx;refine bad aa (h8 hx) (x:=some v) ?_ rfl;cases h;simp only[iR,lQ,has,jE,oz,aO,one]
    cases h
   cases h
  rename_i aa;split at h;rename_i t x lQ has;split at h;rename_i ti aO;obtain ⟨kf,o5,nF,z⟩:=ti;have h8:ρ x≠ .bad->(c.args.toList.map ρ).any en=false:=λY=>by
   rw[has];simp only[jE,oz,D0,List.any_nil,Bool.or_false];cases hx:ρ x<;>first|rfl|exact absurd hx Y
  cases kf<;>simp only[]at h<;>first|(cases h;done)|skip
  unfold JK at h;split at h;rename_i hx;refine bad aa (h8 (by rw[hx];simp)) (x:=some v) ?_ rfl;cases h;simp only[iR,lQ,has,jE,oz,aO,hx,one];rename_i hx;split at h;rename_i au;refine bad aa (h8 (by rw[hx];simp)) (x:=some v) ?_ rfl;cases h;simp only[iR,lQ,has,jE,oz,aO,hx,au,one];cases h;cases h;cases h;cases h;rename_i aa;unfold mq at h;split at h;cases h;rename_i Y;split at h;rename_i x r hx;refine bad aa Y (x:=mP true x r) ?_ h;simp only[iR,hx];cases h;rename_i aa;unfold mq at h;split at h;cases h;rename_i Y;split at h;rename_i x r hx;refine bad aa Y (x:=mP false x r) ?_ h;simp only[iR,hx];cases h;cases h
theorem acV{o:Op}{v:V}(h:AX T ρ s o=some (v,aK)):evalOp T ρ s o=some (.val v,aK):=by
 cases o<;>simp only[AX]at h<;>try (cases h;done)
 case alloc t=>
  split at h;rename_i ti aO;unfold gv at h;simp only[cU,c4]at h;obtain ⟨rfl,rfl⟩:=h;simp only[evalOp,aO];cases h
 case box t x=>
  unfold jj at h;split at h;cases h;rename_i Y;unfold gv at h;simp only[cU,c4]at h;obtain ⟨rfl,rfl⟩:=h;simp only[evalOp]
 case buildSlice t len ps=>
  have:qy T t len (lA ρ ps) s=some (v,aK):=by
   unfold qy lA;split at h;rename_i ti aO;obtain ⟨kf,o5,nF,z⟩:=ti;cases kf<;>simp only[]at h<;>first|(cases h;done)|skip
   split at h;rename_i te dv;split at h;rename_i hle;unfold fl at h;split at h;rename_i l Z;simp only[aO,dv,hle,Pm Z];exact h;cases h;cases h;cases h;cases h
  simp only[evalOp,this,two]
 case store t a x=>
  split at h;rename_i ti aO;have:storeT ti s (ρ a) (ρ x)=some aK∧v=.bad:=by
   unfold ef at h;split at h;cases h;rename_i Y;split at h;rename_i b o al;split at h;rename_i hlen;split at h;rename_i bc hw;simp only[cU,c4]at h;obtain ⟨rfl,rfl⟩:=h;refine ⟨?_,rfl⟩;unfold storeT;split;rename_i e;exact absurd e Y;rename_i a4 o' aZ _;rw[al]at aZ;cases aZ;rw[hlen];exact hw;simp_all;cases h;cases h;cases h
  obtain ⟨J,rfl⟩:=this;simp only[evalOp,aO,J,three];cases h
 case makeSlice t l c=>simp only[evalOp,h,two]
 case makeMap t r=>
  split at h;rename_i ti aO;obtain ⟨kf,o5,nF,z⟩:=ti;cases kf<;>simp only[]at h<;>first|(cases h;done)|skip
  cases r with
  |none=>
   simp only[abA,cU,c4]at h;obtain ⟨rfl,rfl⟩:=h;simp only[evalOp,aO]
  |some _=>cases h
  cases h
 case mapUpdate t m k v'=>
  unfold ad1 at h;split at h;rename_i bc ae;simp only[cU,c4]at h;obtain ⟨rfl,rfl⟩:=h;simp only[evalOp,ae,three];cases h
 case convert a b x=>simp only[evalOp,h,two]
 case call c=>
  split at h;rename_i aa;split at h;rename_i t u x y lQ has;split at h;rename_i ti aO;obtain ⟨kf,o5,nF,z⟩:=ti;cases kf<;>simp only[]at h<;>first|(cases h;done)|skip
  rename_i e;split at h;rename_i Tf Rd;obtain ⟨aoE,avP,atq,awu⟩:=Tf;have fin:∀ {te:cb} {dY:V},T.get e=some te->ρ y=dY->Eu te e (ρ x) dY s=some (v,aK)->(c.args.toList.map ρ).any en=false∧ko te e s (ρ x) (ρ y)=some (v,aK):=by
   intro te dY dv aI av;unfold Eu at av;split at av;cases av;rename_i Y;subst aI;refine ⟨?_,av⟩;rw[has];simpa using Y
  cases aoE<;>simp only[]at h<;>first|(cases h;done)|skip
  split at h;rename_i te dv;unfold OF at h;split at h;cases h;rename_i Y;have J:(c.args.toList.map ρ).any en=false:=by
   rw[has];simpa using Y
  simp only[evalOp,ix,aa,J];simp only[iR,lQ,has,jE,oz,aO,Rd,dv,h,two];cases h;split at h;rename_i te dv;unfold WX at h;split at h;rename_i st aI;obtain ⟨J,U⟩:=fin dv aI h;simp only[evalOp,ix,aa,J];rw[aI]at U;simp only[iR,lQ,has,jE,oz,aO,Rd,dv,aI,U,two];cases h;cases h;split at h;rename_i te dv;unfold fD at h;split at h;cases h;rename_i aI;obtain ⟨J,U⟩:=fin dv rfl h;simp only[evalOp,ix,aa,J];simp only[iR,lQ,has,jE,oz,aO,Rd,dv];rw[U];rfl;cases h;cases h;cases h;cases h;rename_i aa;split at h;rename_i t u x y lQ has;split at h;rename_i ti aO;obtain ⟨kf,o5,nF,z⟩:=ti;cases kf<;>simp only[]at h<;>first|(cases h;done)|skip
  split at h;rename_i te dv;unfold zQ at h;split at h;cases h;rename_i Y;have h8:(c.args.toList.map ρ).any en=false:=by
   rw[has];simpa using Y
  rw[has]at h8;simp only[jE,oz]at h8;simp only[evalOp,ix,aa,has,jE,oz,h8,iR,lQ,aO,dv,h,two];cases h;cases h;cases h;cases h
theorem arJ{o:Op}{v:V}(h:c6 s (AX T ρ (aN s) o)=some (v,aK)):MA T ρ s o=some (v,aK):=by
 unfold c6 at h;split at h;rename_i w t E;have:=acV E;unfold MA;unfold aN at this;rw[this];exact h;cases h
end
section
variable {O:bo}{G:aJ Func}{T:Types}{s aK:S}{ρ dq:Operand->V}
def Sub(aZ e:aJ V):Prop:= ∀t,bl aZ (.tmp t)=.bad∨bl e (.tmp t)=bl aZ (.tmp t)
theorem Sub.refl(e:aJ V):Sub e e:=λ_=>.inr rfl
theorem Sub.trans{a b c:aJ V}(h:Sub a b)(h':Sub b c):Sub a c:=λt=>by
 rcases h t with J|J
 exact .inl J;rcases h' t with U|U
 exact .inl (by rw[<-J,U]);exact .inr (by rw[U,J])
theorem Sub.bl{aZ e:aJ V}(h:Sub aZ e)(x:Operand):bl aZ x=.bad∨bl e x=bl aZ x:=by
 cases x with
 |tmp t=>exact h t
 |const v=>exact .inr rfl
 |global g=>exact .inr rfl
 |func f=>exact .inr rfl
theorem Sub.set{aZ e:aJ V}(h:Sub aZ e){v' v:V}(ad:v'=.bad∨v=v')(d:Option Nat):Sub (lD aZ d v') (lD e d v):=by
 cases d with
 |none=>exact h
 |some d=>
  intro t;simp only[lD,X7];by_cases aO:t=d;simp only[aO,if_true];exact ad;simp only[aO,if_false];exact h t
theorem X2(e:aJ V):∀(L:List Nat) (pre:List V),Sub (EZ L (pre++ot L e) pre.length) e
 |[],pre=>λt=>.inl (by simp only[EZ,ajN])
 |t::L,pre=>by
  intro u;simp only[EZ,X7,ot,jE];have a5:∀(pre:List V) (v:V) (l:List V),nth (pre++v::l) pre.length=v:=by
   intro pre
   induction pre with
   |nil=>intro v l;rfl
   |cons p pre a3=>intro v l;exact a3 v l
  by_cases hu:u=t;simp only[hu,if_true,a5];exact .inr trivial;simp only[hu,if_false];have:=X2 e L (pre++ [X.bl e (.tmp t)]) u;simp only[vl,List.singleton_append,hZ,Hk]at this;exact this
theorem Pf(L:List Nat)(e:aJ V):Sub (yt L (ot L e)) e:=X2 e L []
def m1(k:aJ V->S->ax)(r:V×S)(bG ia:Nat)(f:F):Prop:= ∃aZ,Sub aZ f.e∧f.bG=bG∧f.ms=[]∧f.s.ag<=f.s.n∧ia<=f.s.n∧k aZ f.s=some r
def wT(O:bo)(G:aJ Func)(T:Types)(cz:bt):Prop:= ∀f args s r,cz f args s=some r->s.ag<=s.n->n0 O G T f args s λv s'=>(v,s')=r∧s.n<=s'.n
structure Wn(st:Bool)(o:Oper)(x:ct):Prop where
 w:writer o.op=false->x.f.w=some []
 r:relevant o.op=false->x.f.t=some []∧x.f.w=some []∧x.f.lo=x.f.hi
 z:st=true->x.z=[]
 s:x.f.w.isSome=true
inductive Fits(st:Bool):List Oper->List ct->Prop
 |nil:Fits st [] []
 |cons (o:Oper) (x:ct) (l:List Oper) (bO:List ct) (h:Wn st o x) (Z:Fits st l bO):Fits st (o::l) (x::bO)
theorem Fits.append{st:Bool}{a b:List Oper}{x y:List ct}(h:Fits st a x)(h':Fits st b y):Fits st (a++b) (x++y):=by
 induction h with
 |nil=>exact h'
 |cons o x l bO h _ a3=>exact .cons _ _ _ _ h a3
theorem Fits.reverse{st:Bool}{a:List Oper}{x:List ct}(h:Fits st a x):Fits st a.reverse x.reverse:=by
 induction h with
 |nil=>exact .nil
 |cons o x l bO h _ a3=>simp only[MW];exact a3.append (.cons _ _ _ _ h .nil)
theorem Fits.get{st:Bool}{a:List Oper}{x:List ct}(h:Fits st a x):∀ {i:Nat} {y:ct},x[i]? =some y-> ∃o,a[i]? =some o∧Wn st o y:=by
 induction h with
 |nil=>intro i y h;simp at h
 |cons o x l bO h _ a3=>
  intro i y hi;cases i with
  |zero=>simp at hi;subst hi;exact ⟨o,rfl,h⟩
  |succ i=>simp at hi;simpa using a3 hi
theorem ajr{ops:Array Oper}{bO:List ct}(h:Fits (rn ops) ops.toList bO)(ai:JX ops=true):yr ops bO=true:=by
 unfold yr;rw[dU];constructor;unfold uz;rw[fj];intro p al;obtain ⟨x,i⟩:=p;rw[nx]at al;simp only[Bu,MY]at al;obtain ⟨MT,hx,rfl⟩:=al;obtain ⟨o,aE,aM⟩:=h.get hx;simp only[];split;rfl;rename_i ey;have hw:writer o.op=true:=by
  cases hw:writer o.op with
  |true=>rfl
  |false=>exact absurd (aM.w hw) ey
 rw[fj];intro q a7;obtain ⟨y,j⟩:=q;rw[nx]at a7;simp only[Bu,MY]at a7;obtain ⟨TG,aI,rfl⟩:=a7;obtain ⟨om,K9,KQ⟩:=h.get aI;simp only[];unfold JX at ai;rw[fj]at ai;have J:=ai (o,i) (by rw[nx];simpa using aE);simp only[hw,j6,vm]at J;rw[fj]at J;have U:=J (om,j) (by rw[nx];simpa using K9);simp only[r1]at U;rcases U with U|U
 have E:relevant om.op=false:=by simpa using U
 obtain ⟨aB,aT,bp⟩:=KQ.r E;have:MT.f.lK TG.f=false:=by
  unfold fM.lK;rw[aB,aT];cases C0:MT.f.w with
  |none=>have:=aM.s;rw[C0]at this;cases this
  |some l=>
   simp only[Bool.or_eq_false_iff];refine ⟨⟨?_,?_⟩,?_⟩;cases l<;>simp[Reach.meets];cases l<;>simp[Reach.meets];rw[zu];intro b Y;simp only[dU,eu,gy];omega
 rw[this];rfl;rw[U];simp;unfold zr;rw[dU];cases hw:rn ops with
 |true=>
  rw[hw]at h;have aY:∀x∈bO,x.z=[]:=λx hx=>by
   obtain ⟨i,hi⟩:=List.mem_iff_getElem?.1 hx;obtain ⟨o,_,aM⟩:=h.get hi;exact aM.z rfl
  constructor;rw[fj];intro x hx;simp only[aY x hx];rw[r1];left;rw[fj];intro x hx;obtain ⟨i,hi⟩:=List.mem_iff_getElem?.1 hx;obtain ⟨o,_,aM⟩:=h.get hi;exact aM.s
 |false=>
  have aad:∀x∈bO,x.f.w=some []:=λx hx=>by
   obtain ⟨i,hi⟩:=List.mem_iff_getElem?.1 hx;obtain ⟨o,aE,aM⟩:=h.get hi;refine aM.w ?_;unfold rn at hw;rw[zu]at hw;have:=hw o (hR aE);simpa using this
  constructor;rw[fj];intro x hx;split;rfl;rw[fj];intro y aI;rw[aad y aI];rfl;rw[r1];left;rw[fj];intro x hx;rw[aad x hx];rfl
theorem as1{o:Op}(hw:writer o=false)(aa:∀c,o≠ .call c):hM ρ o=some []:=by
 cases o<;>first|rfl|(simp[writer]at hw;done)|exact absurd rfl (aa _)
theorem aeh{o:Op}(aa:∀c f,o=.call c->c.callee≠ .value f∧ ∀a b,c.callee≠ .invoke a b):(hM ρ o).isSome=true:=by
 cases o<;>try rfl
 rename_i c;simp only[hM];cases iU:c.callee with
 |builtin b=>simp only[];split<;>rfl
 |invoke a b=>exact absurd iU ((aa c (.tmp 0) rfl).2 a b)
 |value f=>exact absurd iU (aa c f rfl).1
theorem asj{o:Op}(E:relevant o=false):cp ρ o=some []:=by
 cases o<;>first|rfl|(simp[relevant]at E;done)
theorem L0{o:Op}(hk:kindOf T o=.pure∨kindOf T o=.state):∀c f,o=.call c->c.callee≠ .value f∧ ∀a b,c.callee≠ .invoke a b:=by
 rintro c f rfl;constructor;intro h;simp only[kindOf,h]at hk;rcases hk with h|h<;>cases h
 intro a b h;simp only[kindOf,h]at hk;rcases hk with h|h<;>cases h
theorem abS{o:Op}(hk:kindOf T o=.pure∨kindOf T o=.state)(hw:writer o=false):hM ρ o=some []:=by
 refine as1 hw ?_;rintro c rfl;have:=L0 hk c (.tmp 0) rfl;simp only[writer]at hw;cases iU:c.callee with
 |builtin b=>rw[iU]at hw;cases hw
 |invoke a b=>exact absurd iU (this.2 a b)
 |value f=>exact absurd iU (L0 hk c f rfl).1
theorem anS{o:Op}(E:relevant o=false)(hk:kindOf T o=.pure∨kindOf T o=.state):kindOf T o=.pure:=by
 cases o<;>first|rfl|(simp[relevant]at E;done)|(rcases hk with h|h<;>(cases h;done))
theorem yE{ops:Array Oper}{aZ e:aJ V}(ae:Sub aZ e){o:Oper}{g:V}{want:Bool}(au:guardOf ops (bl aZ) o=some (g,want)){x:Option V}{v:V}(h:ic g want x=some v):
  (jQ ops e o=some true∧x=some v)∨(jQ ops e o=some false∧v=.da []):=by
 rw[aec];unfold guardOf at au;unfold MR;cases aE:o.guard with
 |none=>rw[aE]at au;cases au
 |some p=>
  obtain ⟨j,w⟩:=p;rw[aE]at au;simp only[]at au ⊢;unfold ic at h;cases ai:(ops[j]?).bind (·.dst) with
  |none=>
   rw[ai]at au;simp only[cU,c4]at au;obtain ⟨rfl,rfl⟩:=au;simp only[]at h ⊢;cases w<;>simp at h<;>exact .inr ⟨by simp,h.symm⟩
  |some d=>
   rw[ai]at au;simp only[cU,c4]at au;obtain ⟨au,rfl⟩:=au;simp only[];split at h;rename_i b;have:bl e (.tmp d)=.bool b:=by
    rcases ae d with J|J
    rw[J]at au;cases au;rw[J,au]
   rw[this];simp only[];split at h;rename_i Y;exact .inl ⟨by rw[Y],h⟩;rename_i Y;cases h;exact .inr ⟨by rw[Y],rfl⟩;have:bl e (.tmp d)=.da []:=by
    rcases ae d with J|J
    rw[J]at au;cases au;rw[J,au]
   rw[this];cases h;exact .inr ⟨rfl,rfl⟩;cases h
theorem YP{ops:Array Oper}{aZ e:aJ V}(ae:Sub aZ e){o:Oper}{g:V}{want:Bool}(au:guardOf ops (bl aZ) o=some (g,want)){x:Option (V×S)}{v:V}(h:gJ g want x s=some (v,aK)):
  (jQ ops e o=some true∧x=some (v,aK))∨(jQ ops e o=some false∧v=.da []∧aK=s):=by
 unfold gJ at h;split at h;rename_i b;split at h;rename_i Y;have:=yE ae au (x:=some (.bool true)) (v:=.bool true) (by simp only[ic,Y]);rcases this with ⟨J,_⟩|⟨_,U⟩
 exact .inl ⟨J,h⟩;cases U;rename_i Y;have:=yE ae au (x:=some (.bool true)) (v:=.da []) (by simp only[ic,Y]);rcases this with ⟨_,U⟩|⟨J,_⟩
 cases U;simp only[cU,c4]at h;exact .inr ⟨J,h.1.symm,h.2.symm⟩;have:=yE ae au (x:=some (.bool true)) (v:=.da []) (by simp only[ic]);rcases this with ⟨_,U⟩|⟨J,_⟩
 cases U;simp only[cU,c4]at h;exact .inr ⟨J,h.1.symm,h.2.symm⟩;cases h
theorem CA{ops:Array Oper}{aZ e:aJ V}{o:Oper}(au:guardOf ops (bl aZ) o=none):jQ ops e o=some true:=by
 rw[aec];unfold guardOf at au;unfold MR;cases aE:o.guard with
 |none=>rfl
 |some p=>
  obtain ⟨j,w⟩:=p;rw[aE]at au;simp only[]at au;cases ai:(ops[j]?).bind (·.dst) with
  |none=>rw[ai]at au;cases au
  |some d=>rw[ai]at au;cases au
theorem Tq{aZ e:aJ V}(ae:Sub aZ e){o:Op}(hk:kindOf T o=.pure){v:V}(h:x1 T (bl aZ) s o=some v):mv T e s o=some (.val v, { s with ag:=s.n }):=by
 unfold x1 at h;split at h;cases h;rename_i Y;split at h;rename_i w t iz;cases h;have h8:=J4 iz (.inl hk) Y;have aa:evalOp T (bl aZ) { s with ag:=s.n } o=evalOp T (bl e) { s with ag:=s.n } o:=Pj λx hx=>((ae.bl x).resolve_left (h8 x hx)).symm;have:=aqr hk iz;subst this;unfold mv;rw[<-aa];exact iz;cases h
theorem WU{o:Op}(hk:kindOf T o=.state):BW ρ o=false:=by
 cases o<;>first|rfl|(cases hk;done)
theorem arI{aZ e:aJ V}(ae:Sub aZ e){o:Op}(hk:kindOf T o=.state){v:V}(h:MA T (bl aZ) s o=some (v,aK)):∃t,mv T e s o=some (.val v,t)∧aK= { t with ag:=min s.ag t.ag } ∧s.n<=t.n:=by
 unfold MA at h;split at h;rename_i w t iz;simp only[cU,c4]at h;obtain ⟨rfl,rfl⟩:=h;have h8:=J4 iz (.inr hk) (WU hk);have aa:evalOp T (bl aZ) { s with ag:=s.n } o=evalOp T (bl e) { s with ag:=s.n } o:=Pj λx hx=>((ae.bl x).resolve_left (h8 x hx)).symm;have a5:=X8 iz;exact ⟨t,by unfold mv;rw[<-aa];exact iz,rfl,a5⟩;cases h
theorem Pw:∀ {args sa:List V} {bs:List Nat} {s aK:S},nI args s=(sa,bs,aK)->aK.n=s.n∧aK.ag=s.ag
 |[],_,_,s,aK,h=>by
  simp only[nI,c4]at h;obtain ⟨_,_,rfl⟩:=h;exact ⟨rfl,rfl⟩
 |v::args,_,_,s,aK,h=>by
  unfold nI at h;split at h;rename_i v' bs aM;obtain ⟨J,U,_⟩:=Gm bs s;split at h;rename_i E;obtain ⟨aB,aT⟩:=Pw E;simp only[c4]at h;obtain ⟨_,_,rfl⟩:=h;exact ⟨aB.trans J,aT.trans U⟩;split at h;rename_i E;obtain ⟨aB,aT⟩:=Pw E;simp only[c4]at h;obtain ⟨_,_,rfl⟩:=h;exact ⟨aB,aT⟩
theorem Ys{f:Nat}{args sa:List V}{bs:List Nat}{s aK:S}(h:kG dT f args s=(sa,bs,aK)):aK.n=s.n∧aK.ag=s.ag:=by
 unfold kG at h;split at h;cases h;exact ⟨rfl,rfl⟩;exact Pw h
theorem ajg{cz:bt}(oV:wT O G T cz){bG ia:Nat}{aP:Bool}{ops:Array Oper}(ai:aP=true->JX ops=true){r:V×S} :∀ {l:List Oper} {done:List Oper} {aZ:aJ V} {s:S} {k:aJ V->S->ax},
  oQ cz T bG aP (rn ops) ops l aZ s k=some r->done.reverse++l=ops.toList-> ∀ {e:aJ V} {bO:List ct},Sub aZ e->s.ag<=s.n->ia<=s.n->(aP=true->Fits (rn ops) done bO)->
  oG O G T ops aP bO l ⟨e,bG,s,[]⟩ (m1 k r bG ia):=by
 intro l
 induction l with
 |nil=>
  intro done aZ s k h Z e bO ae p7 sm aM;simp only[oQ]at h;have hk:m1 k r bG ia ⟨e,bG,s,[]⟩:=⟨aZ,ae,rfl,rfl,p7,sm,h⟩;cases aP with
  |false=>exact ag7 hk
  |true=>
   refine Wx ?_ hk;refine ajr ?_ (ai rfl);rw[<-Z,hd];exact (aM rfl).reverse
 |cons o l a3=>
  intro done aZ s k h Z e bO ae p7 sm aM;have dK:(o::done).reverse++l=ops.toList:=by simpa using Z
  unfold oQ at h;cases uH:vH o.dst bG with
  |false=>rw[uH]at h;cases h
  |true=>
   rw[uH]at h;simp only[]at h;have zm:∀ {v:V},jQ ops e o=some false->v=.da []->oQ cz T bG aP (rn ops) ops l (lD aZ o.dst v) s k=some r->oG O G T ops aP bO (o::l) ⟨e,bG,s,[]⟩ (m1 k r bG ia):=by
    rintro v hw rfl hk;refine Wy hw uH ?_;rw[Nat.min_self];refine a3 hk dK (ae.set (.inr rfl) _) p7 sm λm9=>?_;subst m9;exact .cons _ _ _ _ ⟨λ_=>rfl,λ_=>⟨rfl,rfl,rfl⟩,λ_=>rfl,rfl⟩ (aM rfl)
   have val:∀ {v' v:V},jQ ops e o=some true->mv T e s o.op=some (.val v, { s with ag:=s.n })->(v'=.bad∨v=v')->(writer o.op=false->hM (bl e) o.op=some [])->
     (hM (bl e) o.op).isSome=true->oQ cz T bG aP (rn ops) ops l (lD aZ o.dst v') s k=some r->oG O G T ops aP bO (o::l) ⟨e,bG,s,[]⟩ (m1 k r bG ia):=by
    intro v' v hw iz ad Aw At hk;refine Jl hw iz uH ?_;have hm:({ s with ag:=min s.ag s.n } :S)=s:=by rw[ny p7]
    simp only[hm];refine a3 hk dK (ae.set ad _) p7 sm λm9=>?_;subst m9;have Y:Nat.blt s.n s.n=false:=by
     cases hx:Nat.blt s.n s.n with
     |false=>rfl
     |true=>rw[gy]at hx;omega
    refine .cons _ _ _ _ ⟨λ_=>?_,λE=>⟨asj E,?_,rfl⟩,λ_=>rfl,?_⟩ (aM rfl);all_goals simp only[Y,writes]
    rfl
   have WN:∀ {x:Operand},(o.op=.move x∨o.op=.assign x)->mv T e s o.op=some (.val (bl e x), { s with ag:=s.n }):=by
    rintro x (h|h)<;>rw[h]<;>rfl
   split at h;rename_i x hk;have k3:o.op=.move x∨o.op=.assign x:=by
    cases aE:o.op<;>rw[aE]at hk<;>simp only[kindOf]at hk<;>try (cases hk;done)
    cases hk;exact .inl rfl;cases hk;exact .inr rfl;split at hk<;>cases hk;split at hk<;>cases hk
   have rB:hM (bl e) o.op=some []:=by rcases k3 with h|h<;>rw[h]<;>rfl
   split at h;rename_i au;exact val (CA au) (WN k3) (ae.bl x) (λ_=>rB) (by rw[rB];rfl) h;rename_i g want au;rw[Ez]at h;split at h;rename_i v ad;rcases yE ae au ad with ⟨J,U⟩|⟨J,U⟩
   cases U;exact val J (WN k3) (ae.bl x) (λ_=>rB) (by rw[rB];rfl) h;exact zm J U h;cases h;rename_i c a b hk;have k3:o.op=.pick c a b:=by
    cases aE:o.op<;>rw[aE]at hk<;>simp only[kindOf]at hk<;>try (cases hk;done)
    cases hk;rfl;split at hk<;>cases hk;split at hk<;>cases hk
   have rB:hM (bl e) o.op=some []:=by rw[k3];rfl
   have al:∀ {v:V},di (bl aZ c) (bl aZ a) (bl aZ b)=some v-> ∃w,mv T e s o.op=some (.val w, { s with ag:=s.n })∧(v=.bad∨w=v):=by
    intro v ad;unfold di at ad;split at ad;rename_i aa;cases ad;have:bl e c=.bool true:=by
     rcases ae.bl c with J|J
     rw[J]at aa;cases aa;rw[J,aa]
    exact ⟨bl e a,by rw[k3];simp only[mv,evalOp,this],ae.bl a⟩;rename_i aa;cases ad;have:bl e c=.bool false:=by
     rcases ae.bl c with J|J
     rw[J]at aa;cases aa;rw[J,aa]
    exact ⟨bl e b,by rw[k3];simp only[mv,evalOp,this],ae.bl b⟩;cases ad
   split at h;rename_i au;rw[Ez]at h;split at h;rename_i v ad;obtain ⟨w,J,U⟩:=al ad;exact val (CA au) J U (λ_=>rB) (by rw[rB];rfl) h;cases h;rename_i g want au;rw[Ez]at h;split at h;rename_i v ad;rcases yE ae au ad with ⟨J,U⟩|⟨J,U⟩
   obtain ⟨w,aj,aH⟩:=al U;exact val J aj aH (λ_=>rB) (by rw[rB];rfl) h;exact zm J U h;cases h;rename_i hk;have rB:=λhw=>abS (ρ:=bl e) (.inl hk) hw;have At:(hM (bl e) o.op).isSome=true:=aeh (L0 (.inl hk));split at h;rename_i au;rw[Ez]at h;split at h;rename_i v ad;exact val (CA au) (Tq ae hk (MK ad)) (.inr rfl) rB At h;cases h;rename_i g want au;rw[Ez]at h;split at h;rename_i v ad;rcases yE ae au ad with ⟨J,U⟩|⟨J,U⟩
   exact val J (Tq ae hk (MK U)) (.inr rfl) rB At h;exact zm J U h;cases h;rename_i hk;have st:∀ {v:V} {aK:S},jQ ops e o=some true->c6 s (AX T (bl aZ) (aN s) o.op)=some (v,aK)->oQ cz T bG aP (rn ops) ops l (lD aZ o.dst v) aK k=some r->oG O G T ops aP bO (o::l) ⟨e,bG,s,[]⟩ (m1 k r bG ia):=by
    intro v aK hw ad QA;obtain ⟨t,J,rfl,aj⟩:=arI ae hk (arJ ad);refine Jl hw J uH ?_;refine a3 QA dK (ae.set (.inr rfl) _) (by simp only[];omega) (by simp only[];omega) λm9=>?_;subst m9;have rB:=λhw=>abS (ρ:=bl e) (.inr hk) hw;have At:(hM (bl e) o.op).isSome=true:=aeh (L0 (.inr hk));refine .cons _ _ _ _ ⟨λhw=>?_,λE=>?_,λ_=>rfl,?_⟩ (aM rfl);simp only[writes];split;rfl;exact rB hw;have:=anS (T:=T) E (.inr hk);rw[this]at hk;cases hk;simp only[writes];split;rfl;exact At
   split at h;rename_i au;rw[B2]at h;split at h;rename_i v aK ad;exact st (CA au) ad h;cases h;rename_i g want au;rw[B2]at h;split at h;rename_i v aK ad;rcases YP ae au ad with ⟨J,U⟩|⟨J,U,aj⟩
   exact st J U h;subst aj;exact zm J U h;cases h;rename_i f args hk;have k3:∃c,o.op=.call c∧c.callee=.value f∧c.args.toList=args:=by
    cases aE:o.op<;>rw[aE]at hk<;>simp only[kindOf]at hk<;>try (cases hk;done)
    split at hk<;>cases hk;rename_i c;split at hk<;>first|(cases hk;done)|skip
    rename_i gj Ad;cases hk;exact ⟨c,rfl,Ad,rfl⟩
   obtain ⟨c,pr,KI,P7⟩:=k3;have kq:∀ {v:V} {aK:S},jQ ops e o=some true->cJ cz aP (rn ops) (bl aZ f) (args.map (bl aZ)) s=some (v,aK)->oQ cz T bG aP (rn ops) ops l (lD aZ o.dst v) aK k=some r->
     oG O G T ops aP bO (o::l) ⟨e,bG,s,[]⟩ (m1 k r bG ia):=by
    intro v aK hw ad QA;unfold cJ at ad;split at ad;cases ad;rename_i h8;have mh:args.map (bl e)=args.map (bl aZ):=Bk λx hx=>(ae.bl x).resolve_left λxo=>by
     have:(args.map (bl aZ)).any en=true:=by
      rw[tY];exact ⟨_,qn.2 ⟨x,hx,rfl⟩,by rw[xo];rfl⟩
     rw[this]at h8;cases h8
    split at ad;rename_i g first cap p4
    have Qn:bl e f=.fn g first cap:=by
     rcases ae.bl f with J|J
     rw[J]at p4;cases p4;rw[J,p4]
    split at ad;rename_i sa bs bc aY;split at ad;rename_i my kB lN;split at ad;rename_i cK;simp only[cU,c4]at ad;obtain ⟨rfl,rfl⟩:=ad;have iz:mv T e s o.op=some (.call g (first++(args.map (bl aZ)++cap)), { s with ag:=s.n }):=by
     unfold mv;rw[pr];simp only[evalOp,ix,KI,Qn,P7,mh]
    obtain ⟨gg,ml⟩:=Ys aY;simp only[]at gg ml;refine Ww hw iz aY uH ((oV _ _ _ _ lN D).mono λv s' xB=>?_);obtain ⟨xB,yU⟩:=xB;cases xB;obtain ⟨bk,cn⟩:=least_le bs (min s.ag kB.ag);refine a3 QA dK (ae.set (.inr rfl) _) (by simp only[];omega) (by simp only[];omega) λm9=>?_;subst m9;have FP:Nat.ble s.n kB.ag=true∧(rn ops=true->bs=[]):=by
     unfold qI at cK;cases dE:rn ops with
     |true=>
      rw[dE]at cK;simp only[dU]at cK;exact ⟨cK.1,λ_=>by simpa using cK.2⟩
     |false=>rw[dE]at cK;exact ⟨cK,λh=>by cases h⟩
    have Y:Nat.blt kB.ag s.n=false:=by
     cases hx:Nat.blt kB.ag s.n with
     |false=>rfl
     |true=>
      rw[gy]at hx;have:=FP.1;rw[eu]at this;omega
    refine .cons _ _ _ _ ⟨λ_=>?_,λE=>?_,FP.2,?_⟩ (aM rfl);simp only[Y,writes];rw[pr]at E;cases E;simp only[Y,writes];rfl;cases ad;cases ad;cases ad
   split at h;rename_i au;rw[B2]at h;split at h;rename_i v aK ad;exact kq (CA au) ad h;cases h;rename_i g want au;rw[B2]at h;split at h;rename_i v aK ad;rcases YP ae au ad with ⟨J,U⟩|⟨J,U,aj⟩
   exact kq J U h;subst aj;exact zm J U h;cases h;cases h
theorem ajo{ops:Array Oper}{bO:List ct}(h:fe (qb [] ops.toList) bO=true):yr ops bO=true:=by
 unfold fe at h;unfold yr;rw[dU]at h ⊢;refine ⟨?_,h.2⟩;have J:=h.1;unfold uz;rw[fj]at J ⊢;intro p al;obtain ⟨x,i⟩:=p;rw[nx]at al;simp only[Bu,MY]at al;obtain ⟨MT,hx,rfl⟩:=al;have U:=J (MT,i) (by rw[nx];exact hx);simp only[]at U ⊢;split;rfl;rename_i ey;split at U;rename_i hw;exact absurd hw ey;rw[fj]at U ⊢;intro q a7;obtain ⟨y,j⟩:=q;rw[nx]at a7;simp only[Bu,MY]at a7;obtain ⟨TG,aI,rfl⟩:=a7;exact U (TG,j) (by rw[nx];exact aI)
theorem adT{o:Op}(h:∀x∈o.operands,ρ x=dq x):cp ρ o=cp dq o:=by
 cases o<;>try rfl
 case load t a=>simp only[cp];rw[h a (by simp[Op.operands])]
 case store t a x=>simp only[cp];rw[h a (by simp[Op.operands])]
 case lookup t x i ok=>simp only[cp];rw[h x (by simp[Op.operands])]
 case mapUpdate t m k v=>simp only[cp];rw[h m (by simp[Op.operands])]
 case convert a b x=>simp only[cp];rw[h x (by simp[Op.operands])]
 case call c=>
  simp only[cp];cases aa:c.callee with
  |builtin b=>
   simp only[];congr 1;rw[List.flatMap_def,List.flatMap_def];congr 1;refine Bk λx hx=>?_;rw[h x (by simp only[Op.operands,Call.operands,aa];simpa using hx)]
  |invoke a b=>rfl
  |value f=>rfl
theorem as0{o:Op}(h:∀x∈o.operands,ρ x=dq x):hM ρ o=hM dq o:=by
 cases o<;>try rfl
 case store t a x=>simp only[hM];rw[h a (by simp[Op.operands])]
 case mapUpdate t m k v=>simp only[hM];rw[h m (by simp[Op.operands])]
 case call c=>
  simp only[hM];cases aa:c.callee with
  |builtin b=>
   simp only[];cases Z:c.args.toList with
   |nil=>rfl
   |cons x l=>
    simp only[];rw[h x (by
     have hm:x∈c.args.toList:=by rw[Z];simp
     simp only[Op.operands,Call.operands,aa];simpa using hm)]
  |invoke a b=>rfl
  |value f=>rfl
theorem ahV(n:Nat):Nat.blt n n=false:=by
 cases hx:Nat.blt n n with
 |false=>rfl
 |true=>rw[gy]at hx;omega
theorem ajf{cz:bt}(oV:wT O G T cz){bG ia:Nat}{ops:Array Oper}{r:V×S} :∀ {l:List Oper} {bO:List ct} {aZ:aJ V} {s:S} {k:aJ V->S->ax},
  EL cz T bG ops (qb [] ops.toList) l bO aZ s k=some r-> ∀ {e:aJ V},Sub aZ e->s.ag<=s.n->ia<=s.n->oG O G T ops true bO l ⟨e,bG,s,[]⟩ (m1 k r bG ia):=by
 intro l
 induction l with
 |nil=>
  intro bO aZ s k h e ae p7 sm;unfold EL gZ at h;split at h;rename_i ai;exact Wx (ajo ai) ⟨aZ,ae,rfl,rfl,p7,sm,h⟩;cases h
 |cons o l a3=>
  intro bO aZ s k h e ae p7 sm;unfold EL at h;split at h;cases h;rename_i uH;rw[pX]at h;split at h;rename_i v aK x ad;have zm:jQ ops e o=some false->xD s (.da [])=some (v,aK,x)->oG O G T ops true bO (o::l) ⟨e,bG,s,[]⟩ (m1 k r bG ia):=by
   intro hw hi;unfold xD at hi;simp only[cU,c4]at hi;obtain ⟨rfl,rfl,rfl⟩:=hi;refine Wy hw uH ?_;rw[Nat.min_self];exact a3 h (ae.set (.inr rfl) _) p7 sm
  have aeb:jQ ops e o=some true->Sd cz T aZ s o.op=some (v,aK,x)->oG O G T ops true bO (o::l) ⟨e,bG,s,[]⟩ (m1 k r bG ia):=by
   intro hw aE;have hm:({ s with ag:=min s.ag s.n } :S)=s:=by rw[ny p7]
   have val:∀ {my:V} {t:Reach},mv T e s o.op=some (.val my, { s with ag:=s.n })->(v=.bad∨my=v)->cp (bl e) o.op=t->some (v,s,(⟨⟨t,some [],s.n,s.n⟩,[]⟩:ct))=some (v,aK,x)->
     oG O G T ops true bO (o::l) ⟨e,bG,s,[]⟩ (m1 k r bG ia):=by
    rintro my t iz ans rfl hx;simp only[cU,c4,true_and]at hx;obtain ⟨rfl,rfl⟩:=hx;refine Jl hw iz uH ?_;simp only[hm,ahV,writes];exact a3 h (ae.set ans _) p7 sm
   unfold Sd at aE;split at aE;rename_i y hk;have k3:o.op=.move y∨o.op=.assign y:=by
    cases aE:o.op<;>rw[aE]at hk<;>simp only[kindOf]at hk<;>try (cases hk;done)
    cases hk;exact .inl rfl;cases hk;exact .inr rfl;split at hk<;>cases hk;split at hk<;>cases hk
   have iz:mv T e s o.op=some (.val (bl e y), { s with ag:=s.n }):=by rcases k3 with h|h<;>rw[h]<;>rfl
   have aO:cp (bl e) o.op=some []:=by rcases k3 with h|h<;>rw[h]<;>rfl
   unfold xD at aE;have fx:bl aZ y=v:=by simp only[cU,c4]at aE;exact aE.1
   rw[fx]at aE;exact val iz (by rw[<-fx];exact ae.bl y) aO aE;rename_i c a b hk;have k3:o.op=.pick c a b:=by
    cases aE:o.op<;>rw[aE]at hk<;>simp only[kindOf]at hk<;>try (cases hk;done)
    cases hk;rfl;split at hk<;>cases hk;split at hk<;>cases hk
   have aO:cp (bl e) o.op=some []:=by rw[k3];rfl
   unfold eT at aE;split at aE;rename_i DQ al;have fx:DQ=v:=by simp only[cU,c4]at aE;exact aE.1
   subst fx;unfold di at al;split at al;rename_i aa;cases al;have:bl e c=.bool true:=by
    rcases ae.bl c with J|J
    rw[J]at aa;cases aa;rw[J,aa]
   exact val (by rw[k3];simp only[mv,evalOp,this]) (ae.bl a) aO aE;rename_i aa;cases al;have:bl e c=.bool false:=by
    rcases ae.bl c with J|J
    rw[J]at aa;cases aa;rw[J,aa]
   exact val (by rw[k3];simp only[mv,evalOp,this]) (ae.bl b) aO aE;cases al;cases aE;rename_i hk;unfold eT at aE;split at aE;rename_i DQ al;have fx:DQ=v:=by simp only[cU,c4]at aE;exact aE.1
   subst fx;have h8:∀x∈o.op.operands,bl e x=bl aZ x:=by
    have al:=MK al;unfold x1 at al;split at al;cases al;rename_i Y;split at al;rename_i iz;exact λx hx=>(ae.bl x).resolve_left (J4 iz (.inl hk) Y x hx);cases al
   exact val (Tq ae hk (MK al)) (.inr rfl) (adT h8) aE;cases aE;rename_i hk;unfold e9 at aE;split at aE;rename_i DQ t am7;have iz:evalOp T (bl aZ) { s with ag:=s.n } o.op=some (.val DQ,t):=acV am7;simp only[cU,c4]at aE;obtain ⟨rfl,rfl,rfl⟩:=aE;have h8:∀x∈o.op.operands,bl e x=bl aZ x:=λx hx=>(ae.bl x).resolve_left (J4 iz (.inr hk) (WU hk) x hx);have aa:evalOp T (bl aZ) { s with ag:=s.n } o.op=evalOp T (bl e) { s with ag:=s.n } o.op:=Pj λx hx=>(h8 x hx).symm;have a5:=X8 iz;simp only[]at a5;refine Jl hw (by unfold mv;rw[<-aa];exact iz) uH ?_;rw[adT h8];have rC:writes (bl e) o.op (Nat.blt t.ag s.n)=(match Nat.blt t.ag s.n with
    |true=>hM (bl aZ) o.op
    |false=>some []):=by
    unfold writes;cases Nat.blt t.ag s.n with
    |false=>rfl
    |true=>exact as0 h8
   rw[rC];exact a3 h (ae.set (.inr rfl) _) (by simp only[];omega) (by simp only[];omega);cases aE;rename_i f args hk;have k3:∃c,o.op=.call c∧c.callee=.value f∧c.args.toList=args:=by
    cases aE:o.op<;>rw[aE]at hk<;>simp only[kindOf]at hk<;>try (cases hk;done)
    split at hk<;>cases hk;rename_i c;split at hk<;>first|(cases hk;done)|skip
    rename_i gj Ad;cases hk;exact ⟨c,rfl,Ad,rfl⟩
   obtain ⟨c,pr,KI,P7⟩:=k3;unfold et at aE;split at aE;cases aE;rename_i h8;have mh:args.map (bl e)=args.map (bl aZ):=Bk λx hx=>(ae.bl x).resolve_left λxo=>by
    have:(args.map (bl aZ)).any en=true:=by
     rw[tY];exact ⟨_,qn.2 ⟨x,hx,rfl⟩,by rw[xo];rfl⟩
    rw[this]at h8;cases h8
   split at aE;rename_i g first cap p4
   have Qn:bl e f=.fn g first cap:=by
    rcases ae.bl f with J|J
    rw[J]at p4;cases p4;rw[J,p4]
   split at aE;rename_i sa bs bc aY;split at aE;rename_i my kB lN;simp only[cU,c4]at aE;obtain ⟨rfl,rfl,rfl⟩:=aE;have iz:mv T e s o.op=some (.call g (first++(args.map (bl aZ)++cap)), { s with ag:=s.n }):=by
    unfold mv;rw[pr];simp only[evalOp,ix,KI,Qn,P7,mh]
   obtain ⟨gg,ml⟩:=Ys aY;simp only[]at gg ml;refine Ww hw iz aY uH ((oV _ _ _ _ lN D).mono λv s' xB=>?_);obtain ⟨xB,yU⟩:=xB;cases xB;obtain ⟨bk,cn⟩:=least_le bs (min s.ag kB.ag);have rC:writes (bl e) o.op (Nat.blt kB.ag s.n)=(match Nat.blt kB.ag s.n with
    |true=>none
    |false=>some []):=by
    unfold writes;cases Nat.blt kB.ag s.n with
    |false=>rfl
    |true=>rw[pr];simp only[hM,KI]
   rw[rC];exact a3 h (ae.set (.inr rfl) _) (by simp only[];omega) (by simp only[];omega);cases aE;cases aE;cases aE
  unfold ga at ad;split at ad;rename_i au;exact aeb (CA au) ad;rename_i g want au;split at ad;rename_i b;have ZL:=λ(y:Option V) (w:V) (aI:ic (.bool b) want y=some w)=>yE ae au aI;split at ad;rename_i Y;rcases ZL (some (.bool true)) (.bool true) (by simp only[ic,Y]) with ⟨J,_⟩|⟨_,U⟩
  exact aeb J ad;cases U;rename_i Y;rcases ZL (some (.bool true)) (.da []) (by simp only[ic,Y]) with ⟨_,U⟩|⟨J,_⟩
  cases U;exact zm J ad;rcases yE ae au (x:=some (.bool true)) (v:=.da []) (by simp only[ic]) with ⟨_,U⟩|⟨J,_⟩
  cases U;exact zm J ad;cases ad;cases h
end
section
variable {O:bo}{G:aJ Func}{T:Types}{s aK:S}{ρ dq:Operand->V}
theorem m1.cut{k:aJ V->S->ax}{r:V×S}{bG ia:Nat}{f:F}(L:List Nat)(h:m1 (λe s=>k (yt L (ot L e)) s) r bG ia f):m1 k r bG ia f:=by
 obtain ⟨aZ,J,U,aj,aH,bD,cF⟩:=h;exact ⟨_,(Pf L aZ).trans J,U,aj,aH,bD,cF⟩
theorem ajh{cz:bt}(oV:wT O G T cz){bG n ia:Nat}{k9:List Nat}{r:V×S} :∀ {c:Code} {xs:List (Nat×List Nat)} {out:List Nat} {aZ:aJ V} {s:S} {jN:aJ V->S->ax} {jz:Nat->aJ V->S->ax} {iV:aJ V->S->ax},
  den cz T bG n k9 c xs out aZ s jN jz iV=some r-> ∀ {e:aJ V},Sub aZ e->s.ag<=s.n->ia<=s.n->C O G T c none ⟨e,bG,s,[]⟩ (m1 jN r bG ia) (λj=>m1 (jz j) r bG ia) (m1 iV r bG ia):=by
 intro c
 induction c with
 |skip=>intro xs out aZ s jN jz iV h e ae hw a5;exact afB ⟨aZ,ae,rfl,rfl,hw,a5,h⟩
 |label i=>intro xs out aZ s jN jz iV h e ae hw a5;exact afx ⟨aZ,ae,rfl,rfl,hw,a5,h⟩
 |ret=>intro xs out aZ s jN jz iV h e ae hw a5;exact afy ⟨aZ,ae,rfl,rfl,hw,a5,h⟩
 |exit i=>intro xs out aZ s jN jz iV h e ae hw a5;exact afw ⟨aZ,ae,rfl,rfl,hw,a5,h⟩
 |goto i=>intro xs out aZ s jN jz iV h;cases h
 |refuse i=>intro xs out aZ s jN jz iV h;cases h
 |rangeFunc f ps a b=>intro xs out aZ s jN jz iV h;cases h
 |region i ops aP=>
  intro xs out aZ s jN jz iV h e ae hw a5;simp only[den]at h;split at h
  ·rename_i ai;refine Us (ajg oV (λm9=>?_) h (done:=[]) rfl ae hw a5 (λ_=>.nil));subst m9;have ai:O9 ops=true:=ai;unfold O9 at ai;simp only[dU]at ai;exact ai.1
  rename_i ai;have m9:aP=true:=by
   cases aP with
   |true=>rfl
   |false=>cases ai
  subst m9;exact Us (ajf oV h ae hw a5)
 |seq a b Rz RA=>
  intro xs out aZ s jN jz iV h e ae hw a5;simp only[den]at h;refine afA ((Rz h ae hw a5).mono (λf aM=>?_) (λ_ _ h=>h) (λ_ h=>h));obtain ⟨oR,J,U,aj,aH,bD,cF⟩:=aM;obtain ⟨se,apz,e2,apa⟩:=f;simp only[]at J U aj aH bD cF;subst U aj;exact RA cF J aH bD
 |scope c a3=>
  intro xs out aZ s jN jz iV h e ae hw a5;simp only[den]at h;exact afz (a3 h ae hw a5)
 |cond c a b Rz RA=>
  intro xs out aZ s jN jz iV h e ae hw a5;simp only[den,join,aw]at h;unfold aW at h;have aa:∀p,bl aZ c=.bool p->bl e c=.bool p:=λp al=>by
   rcases ae.bl c with J|J
   rw[J]at al;cases al;rw[J,al]
  split at h;rename_i al;refine Ur (aa _ al) (λ_=>(Rz h ae hw a5).mono (λf aM=>aM.cut out) (λ_ _ h=>h) (λ_ h=>h)) (λaM=>by cases aM);rename_i al;refine Ur (aa _ al) (λaM=>by cases aM) (λ_=>(RA h ae hw a5).mono (λf aM=>aM.cut out) (λ_ _ h=>h) (λ_ h=>h));cases h
 |block i c a3=>
  intro xs out aZ s jN jz iV h e ae hw a5;simp only[den,join,aw]at h;refine afv ((a3 h ae hw a5).mono (λf aM=>aM.cut out) (λj f aM=>?_) (λ_ h=>h));obtain ⟨oR,J,U,aj,aH,bD,cF⟩:=aM;constructor;rintro rfl;have:Nat.beq j j=true:=by simp
  simp only[this]at cF;exact m1.cut (k:=jN) out ⟨oR,J,U,aj,aH,bD,cF⟩;intro aG;have:Nat.beq j i=false:=by
   cases Y:Nat.beq j i with
   |false=>rfl
   |true=>exact absurd (kj Y) aG
  simp only[this]at cF;exact ⟨oR,J,U,aj,aH,bD,cF⟩
 |loop c a3=>
  intro xs out aZ s jN jz iV h e ae hw a5;simp only[den]at h;generalize tG k9 (.loop c) xs out=L at h;have key:∀(m:Nat) (vs:List V) (s:S) (e:aJ V),cT m (λa3 vs s=>den cz T bG n k9 c xs L (yt L vs) s (λe s=>a3 (ot L e) s) jz iV) vs s=some r->Sub (yt L vs) e->s.ag<=s.n->ia<=s.n->
    C O G T (.loop c) none ⟨e,bG,s,[]⟩ (m1 jN r bG ia) (λj=>m1 (jz j) r bG ia) (m1 iV r bG ia):=by
   intro m
   induction m with
   |zero=>intro vs s e h;cases h
   |succ m anO=>
    intro vs s e h ae hw a5;have h:den cz T bG n k9 c xs L (yt L vs) s (λe s=>cT m (λa3 vs s=>den cz T bG n k9 c xs L (yt L vs) s (λe s=>a3 (ot L e) s) jz iV) (ot L e) s) jz iV=some r:=h;refine afC ((a3 h ae hw a5).mono (λf aM=>?_) (λ_ _ h=>h) (λ_ h=>h));obtain ⟨oR,J,U,aj,aH,bD,cF⟩:=aM;obtain ⟨se,apz,e2,apa⟩:=f;simp only[]at J U aj aH bD cF;subst U aj;exact anO _ _ _ cF ((Pf L oR).trans J) aH bD
  exact key n _ s e h ((Pf L aZ).trans ae) hw a5
theorem WO{o:Option V}{r:List (Option V)}{l:List V}(h:sY (o::r)=some l):∃v l',o=some v∧v≠ .bad∧sY r=some l'∧l=v::l':=by
 cases o with
 |none=>cases h
 |some v=>
  unfold sY at h;split at h;cases h;rename_i Y;split at h;rename_i l' Z;cases h;exact ⟨v,l',rfl,Y,Z,rfl⟩;cases h
theorem Mh{aZ e:aJ V}{bG:Nat}{ms:List Nat}(ae:Sub aZ e):∀ {rs:List ResultVar} {l:List V},sY (AZ T aZ s rs)=some l->lB T rs ⟨e,bG,s,ms⟩=some l
 |[],l,h=>by simp only[AZ,sY]at h;simp only[lB];exact h
 |.tmp t::rs,l,h=>by
  simp only[AZ]at h;obtain ⟨v,l',J,U,aj,rfl⟩:=WO h;cases J;unfold lB;rw[Mh ae aj];rcases ae t with J|J
  exact absurd J U;simp only[J]
 |.cell a t::rs,l,h=>by
  simp only[AZ]at h;obtain ⟨v,l',J,U,aj,rfl⟩:=WO h;cases aO:T.get t with
  |none=>rw[aO]at J;cases J
  |some ti=>
   rw[aO]at J;simp only[]at J;have ad:loadT ti s (bl aZ (.tmp a))=some v:=abn J;unfold lB;simp only[aO];rcases ae a with aH|aH
   rw[aH]at ad;unfold loadT at ad;split at ad<;>simp[rd]at ad;rw[<-aH]at ad;simp only[ad,Mh ae aj]
theorem acn(s aK:S)(v:V)(h:s.n<=aK.n):s.n<=(packed s aK v).2.n:=by
 have al:∀ {v:V} {r:V×S},rQ s aK v=some r->s.n<=r.2.n:=λ{v r} h=>by
  unfold rQ at h;split at h;split at h;cases h;exact cg _;cases h;cases h
 unfold packed;split;split;rename_i r E;unfold pack at E;split at E;split at E;split at E;split at E;cases E;simp[newObj];cases E;cases E;exact al E;cases E;exact al E;exact h;exact h
theorem aje{cz:bt}(oV:wT O G T cz){n f:Nat}{fn:Func}(fv:O f=none)(aM:G.get f=some fn){args:List V}{s:S}{r:V×S}(h:oP (dT f) cz T n fn args s=some r)(hw:s.ag<=s.n):
  n0 O G T f args s λv s'=>(v,s')=r∧s.n<=s'.n:=by
 unfold oP at h;split at h;cases h;rename_i c aa;split at h;cases h;rename_i hlen;have fin:∀fr,m1 (J7 (dT f) T fn.results.toList s) r fn.ntmps s.n fr->Ends (dT f) T fn.results.toList s (λv s'=>(v,s')=r∧s.n<=s'.n) fr:=by
  rintro ⟨e,bG,aK,ms⟩ ⟨aZ,J,U,aj,aH,bD,cF⟩;simp only[]at J U aj aH bD cF;subst aj;unfold J7 at cF;cases aE:dT f with
  |false=>
   rw[aE]at cF;simp only[e5,bB]at cF;split at cF;rename_i l Z;have dK:=Mh (bG:=bG) (ms:=[]) J Z;unfold Ends LP;simp only[shut,dK];simp only[cU]at cF;exact ⟨cF,acn _ _ _ bD⟩;cases cF
  |true=>
   rw[aE]at cF;simp only[e5,yu]at cF;split at cF;rename_i l Z;have dK:=Mh (bG:=bG) (ms:=[]) J Z;unfold Ends LP;simp only[shut,dK];simp only[cU]at cF;exact ⟨cF,bD⟩;cases cF
 exact afD fv aM aa rfl rfl hlen ((ajh oV h (Sub.refl _) hw (cg _)).mono fin (λ_ _ h=>by
  obtain ⟨_,_,_,_,_,_,h⟩:=h;cases h) fin)
abbrev ag9:=aJ (bt->Nat->List V->S->ax)
def OW(vc:ag9)(n:Nat):Nat->bt:=Nat.rec (motive:=λ_=>bt) (λ_ _ _=>none) λ_ a3 f args s=>match vc.get f with
 |some F=>F a3 n args s
 |none=>none
end
section
variable {O:bo}{G:aJ Func}{T:Types}
def OT(cz:bt)(f:Nat)(args:List V)(s:S):Option dG:=
 match Nat.ble s.ag s.n with
 |true=>match cz f args s with
  |some (v,s')=>some (.val v s')
  |none=>none
 |false=>none
def adI(cz:bt)(T:Types)(rec:Rec)(t:Task):Option dG:=
 match t with
 |.code c ro fr=>mS rec c ro fr
 |.run ops aP bO l fr=>j4 dT T rec ops aP bO l fr
 |.call f args s=>OT cz f args s
 |.round l args s=>mT rec l args s
def ER(cz:bt)(T:Types)(n:Nat):Rec:=Nat.rec (motive:=λ_=>Rec) (λ_=>none) (λ_ a3=>adI cz T a3) n
def BQ(O:bo)(G:aJ Func)(T:Types)(rec:Rec):Prop:= ∀t r,rec t=some r-> ∃N,run O G T N t=some r
theorem BY{t:Task}{r:dG}{N:Nat}(M:Nat)(h:run O G T N t=some r):run O G T (max N M) t=some r:=zh (Nat.le_max_left _ _) _ _ h
theorem BZ{t:Task}{r:dG}{N:Nat}(M:Nat)(h:run O G T N t=some r):run O G T (max M N) t=some r:=zh (Nat.le_max_right _ _) _ _ h
variable {rec:Rec}
theorem arS(Z:BQ O G T rec){ops:Array Oper}{aP:Bool}{bO:List ct}{o:Oper}{l:List Oper}{fr:F}{r:dG}(h:la dT T rec ops aP bO o l fr=some r):∃N,la dT T (run O G T N) ops aP bO o l fr=some r:=by
 unfold la at h;split at h
 ·cases h
 ·rename_i v s he;unfold done at h;split at h
  ·cases h
  ·rename_i fr' al;obtain ⟨N,gE⟩:=Z _ _ h;refine ⟨N,?_⟩;unfold la;simp only[he];unfold done;rw[al];exact gE
 ·rename_i f args s he;split at h;rename_i sa bs aK aY;split at h;rename_i v iD aa;obtain ⟨N,gE⟩:=Z _ _ aa;unfold vG at h;split at h;cases h;rename_i fr' al;obtain ⟨M,uE⟩:=Z _ _ h;refine ⟨max N M,?_⟩;unfold la;simp only[he,aY,BY M gE];unfold vG;rw[al];exact BZ N uE;cases h
 ·rename_i f args s he;split at h
  ·rename_i v iD aa;obtain ⟨N,gE⟩:=Z _ _ aa;unfold done at h;split at h
   ·cases h
   ·rename_i fr' al;obtain ⟨M,uE⟩:=Z _ _ h;refine ⟨max N M,?_⟩;unfold la;simp only[he,BY M gE];unfold done;rw[al];exact BZ N uE
  cases h
theorem arY(Z:BQ O G T rec){ops:Array Oper}{aP:Bool}{bO:List ct}{l:List Oper}{fr:F}{r:dG}(h:j4 dT T rec ops aP bO l fr=some r):∃N,j4 dT T (run O G T N) ops aP bO l fr=some r:=by
 cases l with
 |nil=>exact ⟨0,h⟩
 |cons o l=>
  unfold j4 at h;simp only[]at h;split at h
  ·cases h
  ·rename_i hw;unfold done at h;split at h
   ·cases h
   ·rename_i fr' al;obtain ⟨N,gE⟩:=Z _ _ h;refine ⟨N,?_⟩;unfold j4;simp only[hw];unfold done;rw[al];exact gE
  rename_i hw;obtain ⟨N,gE⟩:=arS Z h;refine ⟨N,?_⟩;unfold j4;simp only[hw];exact gE
theorem adK(Z:BQ O G T rec){ro:Option Nat}{fr:F}{f:Operand}{ps:Array Tmp}{a b:Code}{d:Nat}{ms:List Nat}{s:S}{r:dG}(h:lY rec ro fr f ps a b d ms s=some r):∃N,lY (run O G T N) ro fr f ps a b d ms s=some r:=by
 unfold lY at h;split at h;rename_i g first captured au
 split at h;rename_i v s' aa;obtain ⟨N,gE⟩:=Z _ _ aa;split at h;rename_i va k2;split at h;cases h;rename_i jx;cases al:va.pending with
 |none=>
  rw[al]at h;refine ⟨N,?_⟩;unfold lY;simp only[au,gE,k2];rw[al];exact h
 |some c=>
  rw[al]at h;obtain ⟨M,uE⟩:=Z _ _ h;refine ⟨max N M,?_⟩;unfold lY;simp only[au,BY M gE,k2];rw[al];exact BZ N uE
 cases h;cases h;cases h
theorem arP(Z:BQ O G T rec){c:Code}{ro:Option Nat}{fr:F}{r:dG}(h:mS rec c ro fr=some r):∃N,mS (run O G T N) c ro fr=some r:=by
 cases c<;>simp only[mS]at h ⊢ <;>try first|exact ⟨0,h⟩|exact Z _ _ h|(cases h;done)
 case seq a b=>
  unfold pG at h;cases a7:rec (.code a ro fr) with
  |none=>rw[a7]at h;cases h
  |some q=>
   rw[a7]at h;obtain ⟨N,gE⟩:=Z _ _ a7;split at h;rename_i fr' e;cases e;obtain ⟨M,uE⟩:=Z _ _ h;refine ⟨max N M,?_⟩;unfold pG;rw[BY M gE];exact BZ N uE;rename_i ey;refine ⟨N,?_⟩;unfold pG;rw[gE];split;rename_i fr' e;exact absurd e (ey fr');exact h
 case cond c a b=>
  unfold qk at h;split at h;rename_i aa;obtain ⟨N,gE⟩:=Z _ _ h;exact ⟨N,by unfold qk;rw[aa];exact gE⟩;rename_i aa;obtain ⟨N,gE⟩:=Z _ _ h;exact ⟨N,by unfold qk;rw[aa];exact gE⟩;cases h
 case block id c=>
  unfold qj at h;cases a7:rec (.code c ro fr) with
  |none=>rw[a7]at h;cases h
  |some q=>
   rw[a7]at h;obtain ⟨N,gE⟩:=Z _ _ a7;exact ⟨N,by unfold qj;rw[gE];exact h⟩
 case loop c=>
  unfold o4 at h;cases a7:rec (.code c ro fr) with
  |none=>rw[a7]at h;cases h
  |some q=>
   rw[a7]at h;obtain ⟨N,gE⟩:=Z _ _ a7;split at h;rename_i fr' e;cases e;obtain ⟨M,uE⟩:=Z _ _ h;refine ⟨max N M,?_⟩;unfold o4;rw[BY M gE];exact BZ N uE;rename_i ey;refine ⟨N,?_⟩;unfold o4;rw[gE];split;rename_i fr' e;exact absurd e (ey fr');exact h
 case rangeFunc f ps a b=>
  unfold sJ at h;cases ro with
  |none=>
   obtain ⟨N,gE⟩:=adK Z h;exact ⟨N,by unfold sJ;exact gE⟩
  |some l=>
   simp only[]at h;split at h;rename_i k2;obtain ⟨N,gE⟩:=adK Z h;exact ⟨N,by unfold sJ;simp only[k2];exact gE⟩;cases h
theorem arV(Z:BQ O G T rec){l:Nat}{args:List V}{s:S}{r:dG}(h:mT rec l args s=some r):∃N,mT (run O G T N) l args s=some r:=by
 unfold mT at h;split at h;rename_i va k2;split at h;cases h;rename_i e he;split at h;rename_i fr a7;obtain ⟨N,gE⟩:=Z _ _ a7;unfold vb at h;split at h;rename_i GN KR;split at h;rename_i jx;split at h;rename_i x gk am2;obtain ⟨M,uE⟩:=Z _ _ am2;refine ⟨max N M,?_⟩;unfold mT;simp only[k2,he,BY M gE];unfold vb;simp only[KR,jx,BZ N uE];exact h;cases h;cases h;cases h;cases h;cases h
theorem O5{cz:bt}(oV:wT O G T cz):∀m,BQ O G T (ER cz T m)
 |0=>λt r h=>by cases h
 |m+1=>λt r h=>by
  have a3:=O5 oV m;have h:adI cz T (ER cz T m) t=some r:=h;cases t with
  |code c ro fr=>obtain ⟨N,gE⟩:=arP a3 h;exact ⟨N+1,gE⟩
  |run ops aP bO l fr=>obtain ⟨N,gE⟩:=arY a3 h;exact ⟨N+1,gE⟩
  |call f args s=>
   have h:OT cz f args s=some r:=h;unfold OT at h;split at h;rename_i hle;split at h;rename_i v s' aa;cases h;obtain ⟨N,q,J,U⟩:=oV f args s _ aa (by simpa [eu] using hle);split at U;obtain ⟨U,_⟩:=U;cases U;exact ⟨N,J⟩;exact U.elim;cases h;cases h
  |round l args s=>obtain ⟨N,gE⟩:=arV a3 h;exact ⟨N+1,gE⟩
def Cg(cz:bt)(T:Types)(m:Nat)(fn:Func)(args:List V)(s:S):ax:=
 match fn.body with
 |none=>none
 |some c=>match Nat.ble args.length fn.ntmps with
  |false=>none
  |true=>match ER cz T m (.code c none { e:=aJ.ofList .leaf 0 args,bG:=fn.ntmps,s:=s,ms:=[] }) with
   |some (.code .normal fr)=>J1 s (leave T fn fr)
   |some (.code .ret fr)=>J1 s (leave T fn fr)
   |_=>none
where J1 (s:S):Option dG->ax
 |some (.val v s')=>match Nat.ble s.n s'.n with
  |true=>some (packed s s' v)
  |false=>none
 |_=>none
theorem ajj{cz:bt}(oV:wT O G T cz){m f:Nat}{fn:Func}(fv:O f=none)(hk:dT f=false)(aM:G.get f=some fn){args:List V}{s:S}{r:V×S}(h:Cg cz T m fn args s=some r):
  n0 O G T f args s λv s'=>(v,s')=r∧s.n<=s'.n:=by
 unfold Cg at h;split at h;cases h;rename_i c aa;split at h;cases h;rename_i hlen;have fin:∀ {fr:F},Cg.J1 s (leave T fn fr)=some r-> ∃v aK,leave T fn fr=some (.val v aK)∧((packed s aK v).1,(packed s aK v).2)=r∧s.n<=(packed s aK v).2.n:=by
  intro fr h;unfold Cg.J1 at h;split at h;rename_i v s' Z;split at h;rename_i a5;cases h;exact ⟨v,s',Z,rfl,acn _ _ _ (by simpa [eu] using a5)⟩;cases h;cases h
 split at h;rename_i fr ai;obtain ⟨N,gE⟩:=O5 oV m _ _ ai;exact Nk fv aM aa hlen ⟨N,_,gE,by rw[hk];exact fin h⟩;rename_i fr ai;obtain ⟨N,gE⟩:=O5 oV m _ _ ai;exact Nk fv aM aa hlen ⟨N,_,gE,by rw[hk];exact fin h⟩;cases h
end
section
variable {O:bo}{G:aJ Func}{T:Types}
abbrev Fn:=bt->Nat->List V->S->ax
def bz(O:bo)(G:aJ Func)(T:Types)(f:Nat)(F:Fn):Prop:= ∀cz,wT O G T cz-> ∀n args s r,F cz n args s=some r->s.ag<=s.n->n0 O G T f args s λv s'=>(v,s')=r∧s.n<=s'.n
theorem bz.den{f:Nat}{F:Fn}{fn:Func}(fv:O f=none)(aM:G.get f=some fn)(h:∀cz n args s r,F cz n args s=some r->oP (dT f) cz T n fn args s=some r):bz O G T f F:=
 λcz oV n args s r E hw=>aje oV fv aM (h cz n args s r E) hw
theorem bz.ER{f:Nat}{fn:Func}(fv:O f=none)(hk:dT f=false)(aM:G.get f=some fn)(m:Nat):bz O G T f λcz _ args s=>Cg cz T m fn args s:=
 λcz oV n args s r E _=>ajj oV fv hk aM E
def V5(O:bo)(G:aJ Func)(T:Types)(vc:aJ Fn):Prop:= ∀f F,vc.get f=some F->bz O G T f F
theorem XE{vc:aJ Fn}(h:V5 O G T vc)(n:Nat):∀m,wT O G T (OW vc n m)
 |0=>λf args s r E=>by cases E
 |m+1=>λf args s r E hw=>by
  have E:(match vc.get f with
   |some F=>F (OW vc n m) n args s
   |none=>none)=some r:=E
  split at E;rename_i F eO;exact h f F eO _ (XE h n m) _ _ _ _ E hw;cases E
inductive pc(O:bo)(G:aJ Func)(T:Types):aJ Fn->(Nat->Nat)->Prop
 |leaf (g:Nat->Nat):pc O G T .leaf g
 |node (l:aJ Fn) (v:Option Fn) (r:aJ Fn) (g:Nat->Nat) (h:∀F,v=some F->bz O G T (g 0) F) (Z:pc O G T l (λj=>g (2*j+1))) (E:pc O G T r (λj=>g (2*j+2))):pc O G T (.node l v r) g
theorem pc.get{O:bo}{t:aJ Fn}{g:Nat->Nat}(h:pc O G T t g):∀f F,t.get f=some F->bz O G T (g f) F:=by
 induction h with
 |leaf g=>intro f F eO;rw[aJ.tb]at eO;cases eO
 |node l v r g h _ _ RB RC=>
  intro f F eO;rw[aJ.yz]at eO;cases f with
  |zero=>exact h F eO
  |succ k=>
   simp only[]at eO;cases Y:Nat.beq (k % 2) 0 with
   |true=>
    rw[Y]at eO;have J:bz O G T (g (2*(k / 2)+1)) F:=RB _ _ eO;have U:k % 2=0:=kj Y;have aj:2*(k / 2)+1=k+1:=D
    rwa [aj]at J
   |false=>
    rw[Y]at eO;have J:bz O G T (g (2*(k / 2)+2)) F:=RC _ _ eO;have U:k % 2≠0:=λe=>by rw[e]at Y;cases Y
    have aj:2*(k / 2)+2=k+1:=D
    rwa [aj]at J
theorem pc.ajE{O:bo}{t:aJ Fn}(h:pc O G T t λj=>j):V5 O G T t:=λf F eO=>h.get f F eO
end
end Go.ah.X
