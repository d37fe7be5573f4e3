/-
  A part: lemmas; conditions: those that each names.
-/
import Derived.Test.YtalmddmghdinkaaGreatDoorG
set_option linter.all false
set_option linter.deprecated false
noncomputable section
namespace Go.ah.X
open Go
section
variable {ak m4:Nat->Prop}{h h':aJ hs}{κ hY:b8}{aq:Nat}{s bc aK iD:S}{s' bA o6:b9}{bR hN:b8}{q6 cx hS:Nat->Prop}{T:Types}
theorem Xd{v:V}{w:Value}(ad:R ak h κ v w)(Y:v≠ .bad):∀c∈g6 w,(∃b∈cp.cc v,κ b=some c)∨(ak c∧cp.cc v≠ []):=by
 intro c aa;cases ad<;>simp only[g6,hc,oy,or_false]at aa<;>try (cases aa;done)
 exact absurd rfl Y;subst aa;exact .inl ⟨_,iu.2 rfl,by assumption⟩;subst aa;exact .inl ⟨_,iu.2 rfl,by assumption⟩;subst aa;exact .inr ⟨by assumption,by simp[cp.cc]⟩;subst aa;exact .inr ⟨by assumption,by simp[cp.cc]⟩;subst aa;exact .inl ⟨_,iu.2 rfl,by assumption⟩
theorem asl{o:Op}{ρ:Operand->V}{dq:Operand->Value}{r:jr}(E:evalOp T ρ s o=some (r,aK))(dC:∀x∈o.operands,R ak h κ (ρ x) (dq x)):
  w3 κ ak (cp ρ o) (ah.cp dq o):=by
 have ex:∀ {x:Operand},x∈o.operands->ρ x≠ .bad->w3 κ ak (some (cp.cc (ρ x))) (some (g6 (dq x))):=λ{x} hx Y=>Xd (dC x hx) Y;cases o<;>try (exact λc aa=>absurd aa (by simp))
 case load t a=>
  refine ex (by simp[Op.operands]) λY=>?_;simp only[evalOp,Y]at E;split at E;unfold one loadT at E;split at E;rename_i he;split at he<;>simp[rd]at he;cases E;cases E
 case store t a x=>
  refine ex (by simp[Op.operands]) λY=>?_;simp only[evalOp,Y]at E;split at E;unfold three storeT at E;split at E;rename_i he;split at he;cases he;rename_i e _;cases e;cases he;cases E;cases E
 case lookup t x i ok=>
  refine ex (by simp[Op.operands]) λY=>?_;simp only[evalOp,Y]at E;unfold one sz at E;split at E;rename_i he;split at he;split at he;split at he;rename_i hm _;cases hm;cases he;cases he;cases he;cases E
 case mapUpdate t m k v=>
  refine ex (by simp[Op.operands]) λY=>?_;simp only[evalOp,Y]at E;unfold three at E;split at E;rename_i hu;unfold qS at hu;split at hu;cases hu;split at hu;split at hu;rename_i e _;cases e;cases hu;cases hu;cases E
 case convert a b x=>
  refine ex (by simp[Op.operands]) λY=>?_;simp only[evalOp,Y]at E;unfold two n1 at E;split at E;rename_i he;split at he;rename_i e;cases e;rename_i e;cases e;split at he;cases he;cases he;rename_i e;cases e;cases he;cases E
 case call c=>
  simp only[cp,ah.cp];cases aa:c.callee with
  |builtin b=>
   simp only[];simp only[evalOp,ix,aa]at E;split at E;cases E;rename_i h8;intro d ai;rw[List.mem_flatMap]at ai;obtain ⟨x,hx,kz⟩:=ai;have h3:x∈(Op.call c).operands:=by
    simp only[Op.operands,Call.operands,aa];simpa using hx
   have Y:ρ x≠ .bad:=λe=>by
    have J:(c.args.toList.map ρ).any en=true:=by
     rw[tY];exact ⟨ρ x,qn.2 ⟨x,hx,rfl⟩,by rw[e];rfl⟩
    rw[J]at h8;cases h8
   rcases Xd (dC x h3) Y d kz with ⟨b,J,U⟩|⟨J,U⟩
   exact .inl ⟨b,List.mem_flatMap.2 ⟨x,hx,J⟩,U⟩;refine .inr ⟨J,λe=>U ?_⟩;rw[List.flatMap_eq_nil_iff]at e;exact e x hx
  |invoke _ _=>trivial
  |value f=>trivial
def Live(s:S)(b:Nat):Prop:= ∃o,s.h.get b=some o∧LQ o=true
theorem Tx{b o:Nat}{l:List V}(hw:ow s b o l=some aK):Live s b:=by
 unfold ow at hw;split at hw;rename_i Y;exact ⟨_,Y,rfl⟩;cases hw
theorem Yq{te:cb}{e n len:Nat}{l pre:List V}{v:V}(E:fresh te e n len l pre s=some (v,aK)):aK.ag=s.ag:=by
 unfold fresh at E;split at E;simp only[cU,c4]at E;obtain ⟨rfl,rfl⟩:=E;rfl;cases E
theorem W1{te:cb}{e:Nat}{x y v:V}(E:ko te e s x y=some (v,aK))(hw:aK.ag<s.ag):∃b o l c z,x=.bx b o l c z∧Live s b:=by
 unfold ko at E;split at E;cases E;split at E;split at E;simp only[cU,c4]at E;obtain ⟨rfl,rfl⟩:=E;omega;have:=Yq E;omega;split at E;simp only[cU,c4]at E;obtain ⟨rfl,rfl⟩:=E;omega;cases E;rename_i b o l c z;refine ⟨b,o,l,c,z,rfl,?_⟩;split at E;cases E;split at E;simp only[cU,c4]at E;obtain ⟨rfl,rfl⟩:=E;omega;split at E;split at E;rename_i Rl;exact Tx Rl;cases E;split at E;split at E;have:=Yq E;omega;cases E;rename_i Y;exact ⟨_,Y,rfl⟩;cases E;cases E
theorem ai4{te:cb}{x y v:V}(E:copyV te s x y=some (v,aK))(hw:aK.ag<s.ag):∃b o l c z,x=.bx b o l c z∧Live s b:=by
 unfold copyV at E;split at E;split at E<;>first|(cases E;done)|(simp only[cU,c4]at E;obtain ⟨rfl,rfl⟩:=E;omega)
 rename_i b o l c z;refine ⟨b,o,l,c,z,rfl,?_⟩;split at E;cases E;split at E;simp only[cU,c4]at E;obtain ⟨rfl,rfl⟩:=E;omega;split at E;split at E;rename_i Rl;exact Tx Rl;cases E;cases E;cases E
theorem wv{o:Option V}{r:jr}(E:one o s=some (r,aK)):aK=s:=by
 unfold one at E;split at E;simp only[cU,c4]at E;exact E.2.symm;cases E
theorem o7{o:Option (V×S)}{r:jr}(E:two o=some (r,aK)):∃v,o=some (v,aK):=by
 unfold two at E;split at E;simp only[cU,c4]at E;obtain ⟨_,rfl⟩:=E;exact ⟨_,rfl⟩;cases E
theorem atc{te:cb}{e:Nat}{x y v:V}(E:qU te e s x y=some (v,aK)):aK.ag=s.ag:=by
 unfold qU at E;split at E;split at E;simp only[cU,c4]at E;obtain ⟨_,rfl⟩:=E;rfl;cases E;cases E
theorem ah2{b:Builtin}{lE:List Nat}{args:List V}{r:jr}(E:iR T b lE args s=some (r,aK))(hw:aK.ag<s.ag):∃b o l c z rest,args=.bx b o l c z::rest∧Live s b:=by
 have same:∀ {r:jr},some (r,s)=some (r,aK)->False:=λh=>by
  simp only[cU,c4]at h;obtain ⟨_,rfl⟩:=h;omega
 unfold iR at E;split at E;split at E<;>first|(cases E;done)|(simp only[cU,c4]at E;obtain ⟨_,rfl⟩:=E;omega)|skip
 split at E<;>first|(cases E;done)|(simp only[cU,c4]at E;obtain ⟨_,rfl⟩:=E;omega)
 split at E<;>first|(cases E;done)|(simp only[cU,c4]at E;obtain ⟨_,rfl⟩:=E;omega)|skip
 split at E<;>first|(cases E;done)|(simp only[cU,c4]at E;obtain ⟨_,rfl⟩:=E;omega)
 split at E;split at E;cases E;obtain ⟨v,ad⟩:=o7 E;obtain ⟨b,o,l,c,z,rfl,Z⟩:=W1 ad hw;exact ⟨b,o,l,c,z,_,rfl,Z⟩;cases E;split at E;obtain ⟨v,ad⟩:=o7 E;obtain ⟨b,o,l,c,z,rfl,Z⟩:=W1 ad hw;exact ⟨b,o,l,c,z,_,rfl,Z⟩;cases E;split at E;obtain ⟨v,ad⟩:=o7 E;have:=atc ad;omega;cases E;cases E;split at E;split at E;obtain ⟨v,ad⟩:=o7 E;obtain ⟨b,o,l,c,z,rfl,Z⟩:=ai4 ad hw;exact ⟨b,o,l,c,z,_,rfl,Z⟩;cases E;cases E;have:=wv E;subst this;omega;have:=wv E;subst this;omega;cases E
theorem wrote{o:Op}{ρ:Operand->V}{dq:Operand->Value}{v:V}(E:evalOp T ρ s o=some (.val v,aK))(hw:aK.ag<s.ag)(dC:∀x∈o.operands,R ak h κ (ρ x) (dq x)):
  ∃b c,hM ρ o=some [b]∧ah.hM dq o=some [c]∧κ b=some c∧Live s b:=by
 have same:∀ {r r':jr},some (r,s)=some (r',aK)->False:=λh=>by
  simp only[cU,c4]at h;obtain ⟨_,rfl⟩:=h;omega
 have new:∀ {r r':jr} {o:Obj},some (r,newObj s o)=some (r',aK)->False:=λh=>by
  simp only[cU,c4]at h;obtain ⟨_,rfl⟩:=h;simp[newObj]at hw
 cases o<;>simp only[evalOp]at E<;>try first|(cases E;done)|exact (same E).elim|(have:=wv E;subst this;omega)
 case pick c a b=>
  split at E;exact (same E).elim;exact (same E).elim;cases E
 case alloc t=>
  split at E;exact (new E).elim;cases E
 case box t x=>
  split at E;cases E;exact (new E).elim
 case buildSlice t len ps=>
  obtain ⟨v,ad⟩:=o7 E;unfold qy at ad;split at ad;split at ad;split at ad;split at ad;simp only[cU,c4]at ad;obtain ⟨_,rfl⟩:=ad;simp[newObj]at hw;cases ad;cases ad;cases ad;cases ad
 case load t a=>
  split at E;have:=wv E;subst this;omega;cases E
 case store t a x=>
  split at E;unfold three at E;split at E;rename_i bc ae;simp only[cU,c4]at E;obtain ⟨_,rfl⟩:=E;have av:=dC a (by simp[Op.operands]);unfold storeT at ae;split at ae;cases ae;rename_i b o e _;split at ae;have K2:=Tx ae;rw[e]at av;generalize iU:dq a=bj at av;cases av with
  |ptr _ _ _ c hk=>
   exact ⟨b,c,by simp only[hM,e,cp.cc],by simp only[ah.hM,iU,g6],hk,K2⟩
  cases ae;cases ae;cases E;cases E
 case nilCheck x=>
  split at E<;>first|(cases E;done)|exact (same E).elim
 case convert a b x=>
  obtain ⟨v,ad⟩:=o7 E;unfold n1 at ad;split at ad;simp only[cU,c4]at ad;obtain ⟨_,rfl⟩:=ad;omega;simp only[cU,c4]at ad;obtain ⟨_,rfl⟩:=ad;omega;split at ad;split at ad;simp only[cU,c4]at ad;obtain ⟨_,rfl⟩:=ad;omega;split at ad;split at ad;simp only[cU,c4]at ad;obtain ⟨_,rfl⟩:=ad;omega;cases ad;cases ad;split at ad;split at ad;simp only[cU,c4]at ad;obtain ⟨_,rfl⟩:=ad;omega;cases ad;cases ad;cases ad;cases ad;split at ad;split at ad;simp only[cU,c4]at ad;obtain ⟨_,rfl⟩:=ad;simp[newObj]at hw;cases ad;cases ad;cases ad
 case makeFunc fn a b=>
  split at E;exact (same E).elim;cases E
 case makeMap t r=>
  split at E;exact (new E).elim;cases E
 case mapUpdate t m k v=>
  unfold three at E;split at E;rename_i bc ae;simp only[cU,c4]at E;obtain ⟨_,rfl⟩:=E;have av:=dC m (by simp[Op.operands]);unfold qS at ae;split at ae;cases ae;split at ae;split at ae;rename_i r _ _ _ _ e _;rw[e]at av;generalize iU:dq m=bj at av;cases av with
  |map _ _ c hk=>
   split at ae;rename_i oa;exact ⟨_,c,by simp only[hM,e,cp.cc],by simp only[ah.hM,iU,g6],hk,_,oa,rfl⟩;cases ae
  cases ae;cases ae;cases E
 case makeSlice t l c=>
  obtain ⟨v,ad⟩:=o7 E;unfold eV at ad;split at ad;split at ad;split at ad;simp only[cU,c4]at ad;obtain ⟨_,rfl⟩:=ad;simp[newObj]at hw;cases ad;cases ad;cases ad
 case slice t x lo hi dk=>
  split at E;cases E;have:=wv E;subst this;omega
 case extract t i=>
  split at E;split at E;exact (same E).elim;cases E;cases E
 case call c=>
  unfold ix at E;split at E;rename_i b Y;split at E;cases E;obtain ⟨a4,o,l,bj,z,rest,J,U⟩:=ah2 E hw;cases mh:c.args.toList with
  |nil=>rw[mh]at J;cases J
  |cons x xs=>
   rw[mh]at J;simp only[jE,x7]at J;have hx:=dC x (by
    simp only[Op.operands,Call.operands,Y];have:x∈c.args.toList:=by rw[mh];simp
    simpa using this)
   rw[J.1]at hx;generalize iU:dq x=y at hx;cases hx with
   |bx _ _ _ _ _ _ d hk=>
    exact ⟨a4,d,by simp only[hM,Y,mh,J.1,cp.cc],by simp only[ah.hM,Y,mh,iU,g6],hk,U⟩
  cases E;split at E;cases E;cases E;cases E
theorem calls{o:Op}{ρ:Operand->V}{r:jr}(E:evalOp T ρ s o=some (r,aK))(ad:∀v,r≠ .val v):aK=s∧ ∃c f,o=.call c∧c.callee=.value f:=by
 have uS:∀ {x:Option V},one x s=some (r,aK)->False:=λ{x} h=>by
  unfold one at h;split at h;simp only[cU,c4]at h;exact ad _ h.1.symm;cases h
 have F2:∀ {x:Option (V×S)},two x=some (r,aK)->False:=λ{x} h=>by
  unfold two at h;split at h;simp only[cU,c4]at h;exact ad _ h.1.symm;cases h
 have rA:∀ {v:V} {t:S},some (jr.val v,t)=some (r,aK)->False:=λh=>by
  simp only[cU,c4]at h;exact ad _ h.1.symm
 cases o<;>simp only[evalOp]at E<;>try first|(cases E;done)|exact (rA E).elim|exact (uS E).elim|exact (F2 E).elim
 case pick c a b=>split at E<;>first|(cases E;done)|exact (rA E).elim
 case alloc t=>split at E<;>first|(cases E;done)|exact (rA E).elim
 case box t x=>split at E<;>first|(cases E;done)|exact (rA E).elim
 case load t a=>split at E<;>first|(cases E;done)|exact (uS E).elim
 case store t a x=>
  split at E;unfold three at E;split at E;exact (rA E).elim;cases E;cases E
 case nilCheck x=>split at E<;>first|(cases E;done)|exact (rA E).elim
 case makeFunc fn a b=>split at E<;>first|(cases E;done)|exact (rA E).elim
 case makeMap t r=>split at E<;>first|(cases E;done)|exact (rA E).elim
 case mapUpdate t m k v=>
  unfold three at E;split at E;exact (rA E).elim;cases E
 case slice t x lo hi dk=>split at E<;>first|(cases E;done)|exact (uS E).elim
 case extract t i=>
  split at E;split at E<;>first|(cases E;done)|exact (rA E).elim
  cases E
 case call c=>
  unfold ix at E;split at E;split at E;cases E;exfalso;unfold iR at E;split at E;split at E<;>first|(cases E;done)|exact rA E|skip
  split at E<;>first|(cases E;done)|exact rA E
  split at E<;>first|(cases E;done)|exact rA E|skip
  split at E<;>first|(cases E;done)|exact rA E
  split at E;split at E<;>first|(cases E;done)|exact F2 E
  split at E<;>first|(cases E;done)|exact F2 E
  split at E<;>first|(cases E;done)|exact F2 E
  cases E;split at E;split at E<;>first|(cases E;done)|exact F2 E
  cases E;exact uS E;exact uS E;cases E;cases E;rename_i f aM;split at E;simp only[cU,c4]at E;exact ⟨E.2.symm,c,f,rfl,aM⟩;simp only[cU,c4]at E;exact ⟨E.2.symm,c,f,rfl,aM⟩;cases E
end
section
variable {ak m4:Nat->Prop}{h h':aJ hs}{κ hY:b8}{aq:Nat}{s bc aK iD:S}{s' bA o6:b9}{bR hN:b8}{q6 cx hS:Nat->Prop}{T:Types}{fr gk:F}{fr' gI:Fr}
inductive vv(κ:b8):List Nat->List Nat->Prop
 |nil:vv κ [] []
 |cons (a b:Nat) (l l':List Nat) (h:κ a=some b) (Z:vv κ l l'):vv κ (a::l) (b::l')
theorem vv.mono{l l':List Nat}(hm:vv κ l l')(hk:κ.le hY):vv hY l l':=by
 induction hm with
 |nil=>exact .nil
 |cons a b l l' h _ a3=>exact .cons _ _ _ _ (hk _ _ h) a3
structure l3(aq:Nat)(κ:b8)(ak:Nat->Prop)(fr:F)(fr':Fr):Prop where
 env:pO ak fr'.s.h κ fr.e fr'.e
 bG:fr.bG=fr'.bG
 eQ:dP aq κ ak fr.s fr'.s
 ms:vv κ fr.ms fr'.ms
theorem dP.adm(m:dP aq κ ak s s'){a b:Nat}(av:a<=s.n)(Y:b<=s'.n):dP aq κ ak { s with ag:=a } { s' with ag:=b } :=
 ⟨m.obj,m.lt,m.inj,m.sep,m.vh,⟨av,Y⟩,m.pk,m.gl⟩
theorem least_le:∀(l:List Nat) (n:Nat),least l n<=n∧ ∀b∈l,least l n<=b
 |[],n=>⟨cg _,λb Y=>absurd Y (by simp)⟩
 |a::l,n=>by
  obtain ⟨J,U⟩:=least_le l (min a n);refine ⟨by simp only[least];omega,λb Y=>?_⟩;rcases hc.1 Y with rfl|Y
  simp only[least];omega;exact U b Y
theorem akb(m:dP aq κ ak s s'){L:List Nat}{W:Nat}(jY:∀c,ak c->q6 c)(KD:∀c,q6 c->kn κ ak L c)(J:bc.n=s.n)(e:Ext κ q6 bc { s' with ag:=s'.n } bR cx aK bA)(m6:W<=min s.ag aK.ag)
  (gn:∀b∈L,W<=b):Ext κ ak s s' bR cx { aK with ag:=W } { bA with ag:=min s'.ag bA.ag } :=by
 refine ⟨by have:=e.n;simp only[];omega,e.sD,λb Y=>e.sw b D,λb c U aj=>e.new b c D aj,λc aa=>e.tV c (jY c aa),λc aa=>e.sN c (jY c aa),λc aa=>?_,by simp only[];omega,λhH sd alY U aj=>?_⟩;rcases e.DV c aa with U|U|⟨b,U,aj⟩
 rcases KD c U with aH|⟨b,aH,bD⟩
 exact .inl aH;exact .inr (.inr ⟨b,bD,gn b aH⟩);exact .inr (.inl U);exact .inr (.inr ⟨b,U,by simp only[];omega⟩);simp only[]at U ⊢;have aH:=m.ag.2;have:=e.DR hH sd alY D (by simp only[];omega);omega
theorem acE(b5:l3 aq κ ak fr fr')(DH:dP aq bR cx aK bA)(e:Ext κ ak fr.s fr'.s bR cx aK bA){v:V}{w:Value}(ad:R cx bA.h bR v w){d:Option Nat}(al:put fr d v aK=some gk):
  ∃gI,ah.put fr' d w bA=some gI∧l3 aq bR cx gk gI∧gk.s=aK∧gI.s=bA:=by
 have hle:=e.le b5.eQ;have n9:=b5.env.mono e.tV e.sN hle;unfold put at al;unfold ah.put;cases d with
 |none=>cases al;exact ⟨_,rfl,⟨n9,b5.bG,DH,b5.ms.mono hle⟩,rfl,rfl⟩
 |some d=>
  simp only[]at al ⊢;split at al;rename_i b6;cases al;rw[b5.bG]at b6;exact ⟨{ fr' with e:=fr'.e.set d w,s:=bA },by simp only[b6],⟨n9.set d ad,b5.bG,DH,b5.ms.mono hle⟩,rfl,rfl⟩;cases al
def BO(κ:b8):Option Nat->Option Nat->Prop
 |none,none=>True
 |some l,some l'=>κ l=some l'
 |_,_=>False
theorem BO.mono{a b:Option Nat}(E:BO κ a b)(hk:κ.le hY):BO hY a b:=by
 cases a<;>cases b<;>first|trivial|exact hk _ _ E|exact E
def Ed(aq:Nat)(rec:Rec)(eW:ah.Rec):Prop:= ∀c ro fr r,rec (.code c ro fr)=some r-> ∀κ ak fz fr',codeOk aq c=true->l3 aq κ ak fr fr'->BO κ ro fz->
 ∃x gk bR cx gI,r=.code x gk∧eW (.code c fz fr')=some (.code x gI)∧Ext κ ak fr.s fr'.s bR cx gk.s gI.s∧l3 aq bR cx gk gI
def Eo(aq:Nat)(rec:Rec)(eW:ah.Rec):Prop:= ∀ops aP bO l fr r,rec (.run ops aP bO l fr)=some r-> ∀κ ak ks fr',l3 aq κ ak fr fr'->l.all (qe aq)=true->
 (aP=true->mE κ ak fr.s.n fr'.s.n bO ks∧w4 κ ak bO)->
 ∃gk bR cx gI,r=.code .normal gk∧eW (.run ops aP ks l fr')=some (.code .normal gI)∧Ext κ ak fr.s fr'.s bR cx gk.s gI.s∧l3 aq bR cx gk gI
def Ec(aq:Nat)(rec:Rec)(eW:ah.Rec):Prop:= ∀f args s r,rec (.call f args s)=some r-> ∀κ ak args' s',dP aq κ ak s s'->c2 ak s'.h κ args args'->(s.n<=s.ag->s'.n<=s'.ag)->
 ∃v aK bR cx w bA,r=.val v aK∧eW (.call f args' s')=some (.val w bA)∧Ext κ ak s s' bR cx aK bA∧dP aq bR cx aK bA∧R cx bA.h bR v w
def Oy(aq:Nat)(rec:Rec)(eW:ah.Rec):Prop:= ∀l args s r,rec (.round l args s)=some r-> ∀κ ak l' args' s',dP aq κ ak s s'->κ l=some l'->c2 ak s'.h κ args args'->
 ∃v aK bR cx w bA,r=.val v aK∧eW (.round l' args' s')=some (.val w bA)∧Ext κ ak s s' bR cx aK bA∧dP aq bR cx aK bA∧R cx bA.h bR v w
theorem XV(fr:F)(o:Oper)(v:V)(s:S)(c:F->Bool->Nat->Option dG):done fr o v s c=vG fr o v [] s c:=rfl
theorem finish{rec:Rec}{eW:ah.Rec}(hP:Eo aq rec eW){ops:Array Oper}{aP:Bool}{bO:List ct}{ks:List fM}{o:Oper}{l:List Oper}(b5:l3 aq κ ak fr fr')(cK:l.all (qe aq)=true)
  (kc:aP=true->mE κ ak fr.s.n fr'.s.n bO ks∧w4 κ ak bO) {L:List Nat} (jY:∀c,ak c->q6 c) (KD:∀c,q6 c->kn κ ak L c) (J:bc.n=fr.s.n)
  (e:Ext κ q6 bc { fr'.s with ag:=fr'.s.n } bR cx aK bA) (DH:dP aq bR cx aK bA) {v:V} {w:Value} (ad:R cx bA.h bR v w) {tP DK:Reach} {tT Bf:Bool->Reach}
  (aO:w3 κ ak tP DK) (hw:∀b a4:Bool,b=Nat.blt aK.ag fr.s.n->(a4=true->b=true)->Jo κ (tT b) (Bf a4))
  (Rm:aK.ag<fr.s.n->tT true=none∨ ∀c,cx c->q6 c) (QD:∀ws,tT (Nat.blt aK.ag fr.s.n)=some ws-> ∀b∈ws,b<fr.s.n∧ ∀c,κ b=some c-> ¬cx c)
  (alG:fr'.s.n<bA.n->tP=none∨fr.s.n<aK.n) {r:dG}
  (E:vG fr o v L aK (λfr' wr m=>rec (.run ops aP (ll aP ⟨⟨tP,tT wr,fr.s.n,m⟩,L⟩ bO) l fr'))=some r):
  ∃gk bR cx gI,r=.code .normal gk∧ah.done fr' o w bA (λaka wr m=>eW (.run ops aP (ah.ll aP ⟨DK,Bf wr,fr'.s.n,m⟩ ks) l aka))=some (.code .normal gI)∧
   Ext κ ak fr.s fr'.s bR cx gk.s gI.s∧l3 aq bR cx gk gI:=by
 unfold vG at E;split at E;cases E;rename_i fK ts;obtain ⟨ig,mj⟩:=least_le L (min fr.s.ag aK.ag);have cB:=akb b5.eQ jY KD J e ig mj;have anx:=b5.eQ.ag;have ave:=DH.ag;have WA:dP aq bR cx { aK with ag:=least L (min fr.s.ag aK.ag) } { bA with ag:=min fr'.s.ag bA.ag } :=DH.adm D D;obtain ⟨k1,Ld,yM,mm,FY⟩:=acE b5 WA cB ad ts;have aul:=e.n;have n9:=e.sD;simp only[]at n9;have Aw:Nat.blt bA.ag fr'.s.n=true->Nat.blt aK.ag fr.s.n=true:=λY=>by
  cases hx:Nat.blt aK.ag fr.s.n with
  |true=>rfl
  |false=>
   exfalso;have U: ¬aK.ag<fr.s.n:=λh=>by rw[<-gy,hx]at h;cases h
   have aj:=e.DR fr.s.n fr'.s.n (λb c ft hle=>e.new b c D ft) D (cg _);rw[gy]at Y;omega
 have hle:=cB.le b5.eQ;have amd:aP=true->mE bR cx fK.s.n k1.s.n (ll aP ⟨⟨tP,tT (Nat.blt aK.ag fr.s.n),fr.s.n,aK.n⟩,L⟩ bO) (ah.ll aP ⟨DK,Bf (Nat.blt bA.ag fr'.s.n),fr'.s.n,bA.n⟩ ks)∧
   w4 bR cx (ll aP ⟨⟨tP,tT (Nat.blt aK.ag fr.s.n),fr.s.n,aK.n⟩,L⟩ bO):=by
  intro m9;subst m9;obtain ⟨ZE,ZF⟩:=kc rfl;simp only[ll,ah.ll];rw[mm,FY];constructor;refine .cons _ _ _ _ ?_ (ZE.mono b5.eQ cB);refine ⟨?_,?_,λb c Y=>?_,λb c Y=>?_,alG,⟨by simp only[];omega,by simp only[];omega,by simp only[];omega,by simp only[];omega⟩,λws h2 b Y=>?_⟩;unfold w3 at aO ⊢;split at aO;trivial;intro c aa;rcases aO c aa with ⟨b,aB,aT⟩|⟨aB,aT⟩
  exact .inl ⟨b,aB,hle _ _ aT⟩;exact .inr ⟨cB.tV c aB,aT⟩;exact aO;rcases hw _ _ rfl Aw with k|k|⟨a,b,aB,aT,bp⟩
  exact .inl k;exact .inr (.inl k);exact .inr (.inr ⟨a,b,aB,aT,λc aa=>let ⟨x,eh,eo⟩:=bp c aa;⟨x,eh,hle _ _ eo⟩⟩);simp only[];by_cases z7:b<fr.s.n;have U:=cB.sw b z7;rw[U]at Y;have:=b5.eQ.lt b c Y;constructor<;>intro<;>omega;have:=cB.new b c D Y;constructor<;>intro<;>omega;simp only[];have:=DH.lt b c Y;constructor<;>intro<;>omega;have:=(QD ws h2 b Y).1;simp only[];omega;intro x hx ws h2 b Y c hk aY;rcases hc.1 hx with rfl|hx
  obtain ⟨aB,aT⟩:=QD ws h2 b Y;rw[cB.sw b aB]at hk;exact absurd aY (aT c hk);have z7:b<fr.s.n:=by
   clear ts Ld yM E;have:∀ {l:List ct} {l':List fM},mE κ ak fr.s.n fr'.s.n l l'->x∈l->b<fr.s.n:=by
    intro l l' dE
    induction dE with
    |nil=>intro h;cases h
    |cons a a8 l l' av _ a3=>
     intro h;rcases hc.1 h with rfl|h
     exact av.aee ws h2 b Y;exact a3 h
   exact this ZE hx
  rw[cB.sw b z7]at hk;have hold:ak c->(∃y∈(⟨⟨tP,tT (Nat.blt aK.ag fr.s.n),fr.s.n,aK.n⟩,L⟩::bO:List ct),b∈y.z)∨ ∃y∈(⟨⟨tP,tT (Nat.blt aK.ag fr.s.n),fr.s.n,aK.n⟩,L⟩::bO:List ct),y.f.w=none:=λAx=>by
   rcases ZF x hx ws h2 b Y c hk Ax with ⟨y,aB,aT⟩|⟨y,aB,aT⟩
   exact .inl ⟨y,lG _ aB,aT⟩;exact .inr ⟨y,lG _ aB,aT⟩
  have CR:q6 c->(∃y∈(⟨⟨tP,tT (Nat.blt aK.ag fr.s.n),fr.s.n,aK.n⟩,L⟩::bO:List ct),b∈y.z)∨ ∃y∈(⟨⟨tP,tT (Nat.blt aK.ag fr.s.n),fr.s.n,aK.n⟩,L⟩::bO:List ct),y.f.w=none:=λAx=>by
   rcases KD c Ax with k|⟨a4,aB,aT⟩
   exact hold k;obtain rfl:=b5.eQ.inj a4 b c aT hk;exact .inl ⟨_,j5,aB⟩
  rcases e.DV c aY with k|k|⟨a4,aB,aT⟩
  exact CR k;have:=b5.eQ.lt b c hk;simp only[]at k;omega;obtain rfl:=b5.eQ.inj a4 b c aB hk;have b6:aK.ag<fr.s.n:=D;rcases Rm b6 with k|k
  refine .inr ⟨_,j5,?_⟩;have ft:Nat.blt aK.ag fr.s.n=true:=by rw[gy];exact b6
  simp only[ft];exact k;exact CR (k c aY)
 obtain ⟨gk,hN,hS,gI,aB,aT,bp,eh⟩:=hP _ _ _ _ _ _ E bR cx _ k1 yM cK amd;rw[mm,FY]at bp;refine ⟨gk,hN,hS,gI,aB,?_,cB.trans bp WA,eh⟩;unfold ah.done;rw[Ld];exact aT
end
section
variable {ak m4:Nat->Prop}{h h':aJ hs}{κ hY:b8}{aq:Nat}{s bc aK iD:S}{s' bA o6:b9}{bR hN:b8}{q6 cx hS:Nat->Prop}{T:Types}{fr gk:F}{fr' gI:Fr}
theorem aiL{c:Call}{ρ:Operand->V}{dq:Operand->Value}{f:Nat}{args:List V}(E:ix T c ρ s=some (.call f args,aK)){g:Operand}(aa:c.callee=.value g)(dC:∀x∈c.operands,R ak h κ (ρ x) (dq x)):
  aK=s∧ ∃args',ah.ix T c dq s'=some (.call f args',s')∧c2 ak h κ args args':=by
 have mh:c2 ak h κ (c.args.toList.map ρ) (c.args.toList.map dq):=c2.map λx hx=>dC x (by
  unfold Call.operands;split<;>simp_all)
 have b5:=dC g (by unfold Call.operands;simp[aa]);unfold ix at E;unfold ah.ix;simp only[aa]at E ⊢;split at E;rename_i g0 first captured au
 simp only[cU,c4,jr.call.injEq]at E;obtain ⟨⟨rfl,rfl⟩,rfl⟩:=E;rw[au]at b5;generalize yL:dq g=gj at b5;cases b5 with
 |fn _ _ _ _ a8 a4 av Y=>exact ⟨rfl,_,rfl,av.append (mh.append Y)⟩
 cases E;cases E
theorem aqW{c:Call}{ρ:Operand->V}{dq:Operand->Value}{l:Nat}{args:List V}(E:ix T c ρ s=some (.round l args,aK)){g:Operand}(aa:c.callee=.value g)(dC:∀x∈c.operands,R ak h κ (ρ x) (dq x)):
  aK=s∧ ∃l' args',κ l=some l'∧ah.ix T c dq s'=some (.round l' args',s')∧c2 ak h κ args args':=by
 have mh:c2 ak h κ (c.args.toList.map ρ) (c.args.toList.map dq):=c2.map λx hx=>dC x (by
  unfold Call.operands;split<;>simp_all)
 have b5:=dC g (by unfold Call.operands;simp[aa]);unfold ix at E;unfold ah.ix;simp only[aa]at E ⊢;split at E;cases E;rename_i Df au;simp only[cU,c4,jr.round.injEq]at E;obtain ⟨⟨rfl,rfl⟩,rfl⟩:=E;rw[au]at b5;generalize yL:dq g=gj at b5;cases b5 with
 |yield _ _ d Y=>exact ⟨rfl,d,_,Y,rfl,mh⟩
 cases E
theorem ajM(au:Om aq κ){e:aJ V}{aZ:aJ Value}(he:pO ak h κ e aZ){o:Op}(aE:o.operands.toList.all (tM aq)=true):∀x∈o.operands,R ak h κ (bl e x) (ah.bl aZ x):=by
 intro x hx;rw[fj]at aE;exact he.bl au (aE x (by simpa using hx))
theorem arR{K:Nat->Bool}{rec:Rec}{eW:ah.Rec}(hP:Eo aq rec eW)(lN:Ec aq rec eW)(As:Oy aq rec eW){ops:Array Oper}{aP:Bool}{bO:List ct}{ks:List fM}{o:Oper}{l:List Oper}
  (b5:l3 aq κ ak fr fr') (pt:qe aq o=true) (cK:l.all (qe aq)=true) (kc:aP=true->mE κ ak fr.s.n fr'.s.n bO ks∧w4 κ ak bO) {r:dG} (E:la K T rec ops aP bO o l fr=some r):
  ∃gk bR cx gI,r=.code .normal gk∧ah.la T eW ops aP ks o l fr'=some (.code .normal gI)∧Ext κ ak fr.s fr'.s bR cx gk.s gI.s∧l3 aq bR cx gk gI:=by
 have dC:=ajM b5.eQ.pk b5.env pt;have p7:=b5.eQ.ag;have Mw:dP aq κ ak { fr.s with ag:=fr.s.n } { fr'.s with ag:=fr'.s.n } :=b5.eQ.adm (cg _) (cg _);have PX:∀c,ak c->ak c:=λ_ h=>h;have PW:∀c,ak c->kn κ ak [] c:=λ_ h=>.inl h;unfold la at E;unfold ah.la;split at E;cases E;rename_i v aK iz;obtain ⟨bR,r',bA,J,U,aj,aH⟩:=ajO Mw iz dC;cases aH with
 |val _ w ad=>
  simp only[J];have Aw:=λhw=>wrote iz hw dC;rw[XV]at E;refine finish hP b5 cK kc PX PW (bc:= { fr.s with ag:=fr.s.n }) rfl U.1 aj ad (asl iz dC) (Bf:=ah.writes (ah.bl fr'.e) o.op) (λb a4 Y sg=>?_) (λ_=>.inr λ_ h=>h) (λws h2 b Y=>?_) (λb6=>?_) E;cases a4 with
  |false=>exact .inl rfl
  |true=>
   have alR:=sg rfl;subst alR;have b6:aK.ag<fr.s.n:=by rw[<-gy];exact Y.symm
   obtain ⟨uw,c₁,aB,aT,bp,_⟩:=Aw b6;refine .inr (.inr ⟨[uw],[c₁],by simp only[writes];exact aB,by simp only[ah.writes];exact aT,λc aa=>⟨uw,by simp,?_⟩⟩);simp only[iu]at aa;subst aa;exact bp
  cases hx:Nat.blt aK.ag fr.s.n with
  |false=>
   rw[hx]at h2;simp only[writes,cU]at h2;subst h2;cases Y
  |true=>
   rw[hx]at h2;have b6:aK.ag<fr.s.n:=by rw[<-gy];exact hx
   obtain ⟨uw,c₁,aB,aT,bp,rO,eh,eo⟩:=Aw b6;simp only[writes]at h2;rw[aB]at h2;cases h2;simp only[iu]at Y;subst Y;exact ⟨(b5.eQ.lt _ _ bp).1,λc aa=>b5.eQ.sep _ rO c eh eo aa⟩
  rcases U.2 with bD|bD
  simp only[]at bD;omega;exact .inr bD
 rename_i f args aK iz;obtain ⟨ae,c,g,pr,z8⟩:=calls iz (λv h=>by cases h);subst ae;have Ql:ix T c (bl fr.e) { fr.s with ag:=fr.s.n } =some (.call f args, { fr.s with ag:=fr.s.n }):=by rw[pr]at iz;exact iz
 have Rw:∀x∈c.operands,R ak fr'.s.h κ (bl fr.e x) (ah.bl fr'.e x):=by rw[pr]at dC;exact dC
 obtain ⟨_,args',J,U⟩:=aiL (s':= { fr'.s with ag:=fr'.s.n }) Ql z8 Rw;have iT:ah.evalOp T (ah.bl fr'.e) { fr'.s with ag:=fr'.s.n } o.op=some (.call f args', { fr'.s with ag:=fr'.s.n }):=by rw[pr];exact J
 have y5:writes (bl fr.e) o.op true=none:=by rw[pr];simp only[writes,hM,z8]
 have Rk:ah.writes (ah.bl fr'.e) o.op true=none:=by rw[pr];simp only[ah.writes,ah.hM,z8]
 have Jp:∀b a4:Bool,(a4=true->b=true)->Jo κ (writes (bl fr.e) o.op b) (ah.writes (ah.bl fr'.e) o.op a4):=λb a4 sg=>by
  cases a4 with
  |false=>exact .inl rfl
  |true=>rw[sg rfl];exact .inr (.inl ⟨y5,Rk⟩)
 have KZ:∀(hH:Bool) ws,writes (bl fr.e) o.op hH=some ws-> ∀b∈ws,False:=λhH ws h2 b Y=>by
  cases hH with
  |false=>simp only[writes,cU]at h2;subst h2;cases Y
  |true=>rw[y5]at h2;cases h2
 simp only[iT];split at E;rename_i sa bs bc ry;unfold kG at ry;cases YZ:K f with
 |true=>
  rw[YZ]at ry;cases ry;split at E;rename_i v iD xt;obtain ⟨my,kB,bR,cx,w,bA,aC,aj,aH,bD,cF⟩:=lN _ _ _ _ xt κ ak args' _ Mw U (λ_=>cg _);cases aC;simp only[aj];exact finish hP b5 cK kc PX PW (bc:= { fr.s with ag:=fr.s.n }) rfl aH bD cF (tP:=none) (DK:=none) (Bf:=ah.writes (ah.bl fr'.e) o.op) trivial (λb a4 _ sg=>Jp b a4 sg) (λ_=>.inl y5) (λws h2 b Y=>(KZ _ ws h2 b Y).elim) (λ_=>.inl rfl) E;cases E
 |false=>
  rw[YZ]at ry;simp only[]at ry;obtain ⟨q6,aB,aT,bp,eh,eo,g2⟩:=Px ry Mw U;split at E;rename_i v iD xt;obtain ⟨my,kB,bR,cx,w,bA,aC,aj,aH,bD,cF⟩:=lN _ _ _ _ xt κ q6 args' _ aB aT (λ_=>cg _);cases aC;simp only[aj];exact finish hP b5 cK kc eo g2 (bc:=bc) bp aH bD cF (tP:=none) (DK:=none) (Bf:=ah.writes (ah.bl fr'.e) o.op) trivial (λb a4 _ sg=>Jp b a4 sg) (λ_=>.inl y5) (λws h2 b Y=>(KZ _ ws h2 b Y).elim) (λ_=>.inl rfl) E;cases E
 rename_i f args aK iz;obtain ⟨ae,c,g,pr,z8⟩:=calls iz (λv h=>by cases h);subst ae;have Ql:ix T c (bl fr.e) { fr.s with ag:=fr.s.n } =some (.round f args, { fr.s with ag:=fr.s.n }):=by rw[pr]at iz;exact iz
 have Rw:∀x∈c.operands,R ak fr'.s.h κ (bl fr.e x) (ah.bl fr'.e x):=by rw[pr]at dC;exact dC
 obtain ⟨_,l',args',hk,J,U⟩:=aqW (s':= { fr'.s with ag:=fr'.s.n }) Ql z8 Rw;have iT:ah.evalOp T (ah.bl fr'.e) { fr'.s with ag:=fr'.s.n } o.op=some (.round l' args', { fr'.s with ag:=fr'.s.n }):=by rw[pr];exact J
 have y5:writes (bl fr.e) o.op true=none:=by rw[pr];simp only[writes,hM,z8]
 have Rk:ah.writes (ah.bl fr'.e) o.op true=none:=by rw[pr];simp only[ah.writes,ah.hM,z8]
 have Jp:∀b a4:Bool,(a4=true->b=true)->Jo κ (writes (bl fr.e) o.op b) (ah.writes (ah.bl fr'.e) o.op a4):=λb a4 sg=>by
  cases a4 with
  |false=>exact .inl rfl
  |true=>rw[sg rfl];exact .inr (.inl ⟨y5,Rk⟩)
 have KZ:∀(hH:Bool) ws,writes (bl fr.e) o.op hH=some ws-> ∀b∈ws,False:=λhH ws h2 b Y=>by
  cases hH with
  |false=>simp only[writes,cU]at h2;subst h2;cases Y
  |true=>rw[y5]at h2;cases h2
 simp only[iT];split at E;rename_i v iD xt;obtain ⟨my,kB,bR,cx,w,bA,aC,aj,aH,bD,cF⟩:=As _ _ _ _ xt κ ak l' args' _ Mw hk U;cases aC;simp only[aj];rw[XV]at E;exact finish hP b5 cK kc PX PW (bc:= { fr.s with ag:=fr.s.n }) rfl aH bD cF (tP:=none) (DK:=none) (Bf:=ah.writes (ah.bl fr'.e) o.op) trivial (λb a4 _ sg=>Jp b a4 sg) (λ_=>.inl y5) (λws h2 b Y=>(KZ _ ws h2 b Y).elim) (λ_=>.inl rfl) E;cases E
theorem aed(he:pO ak h κ fr.e fr'.e){ops:Array Oper}{o:Oper}{b:Bool}(hw:jQ ops fr.e o=some b):ah.jQ ops fr'.e o=b:=by
 unfold jQ at hw;unfold ah.jQ;split at hw;rename_i au;cases hw;simp only[au];rename_i j want au;split at hw;rename_i ai;cases hw;simp only[au,ai];rename_i d ai;simp only[au,ai];split at hw;rename_i a4 ft;cases hw;have:=he d;simp only[bl,ft]at this;unfold ah.bl at this;simp only[]at this;split at this;rename_i v ad;cases this;simp only[ad];exact nomatch this;rename_i ft;cases hw;have:=he d;simp only[bl,ft]at this;unfold ah.bl at this;simp only[]at this;split at this;rename_i v ad;cases this with
 |da _ _ _ Z=>cases Z;simp only[ad]
 rename_i ad;simp only[ad];cases hw
theorem arX{K:Nat->Bool}{rec:Rec}{eW:ah.Rec}(hP:Eo aq rec eW)(lN:Ec aq rec eW)(As:Oy aq rec eW){ops:Array Oper}{aP:Bool}{bO:List ct}{ks:List fM}{l:List Oper}
  (b5:l3 aq κ ak fr fr') (cK:l.all (qe aq)=true) (kc:aP=true->mE κ ak fr.s.n fr'.s.n bO ks∧w4 κ ak bO) {r:dG} (E:j4 K T rec ops aP bO l fr=some r):
  ∃gk bR cx gI,r=.code .normal gk∧ah.j4 T eW ops aP ks l fr'=some (.code .normal gI)∧Ext κ ak fr.s fr'.s bR cx gk.s gI.s∧l3 aq bR cx gk gI:=by
 unfold j4 at E;unfold ah.j4;split at E
 ·split at E;cases E;exact ⟨_,κ,ak,fr',rfl,rfl,Ext.refl b5.eQ,b5⟩;split at E;rename_i ai;cases E;obtain ⟨J,U⟩:=kc rfl;have aj:=ajq b5.eQ.inj J.reverse (λx hx ws h2 b Y c hk aY=>by
   rcases U x (List.mem_reverse.1 hx) ws h2 b Y c hk aY with ⟨y,aB,aT⟩|⟨y,aB,aT⟩
   exact .inl ⟨y,List.mem_reverse.2 aB,aT⟩;exact .inr ⟨y,List.mem_reverse.2 aB,aT⟩) ai
  simp only[aj];exact ⟨_,κ,ak,fr',rfl,rfl,Ext.refl b5.eQ,b5⟩;cases E
 ·rename_i o l;simp only[gS,dU]at cK;split at E
  ·cases E
  ·rename_i hw;simp only[aed b5.env hw];unfold done at E;unfold ah.done;split at E;cases E;rename_i fK ts;have p7:=b5.eQ.ag;rw[Nat.min_self]at ts ⊢;obtain ⟨k1,Ld,yM,mm,FY⟩:=acE b5 b5.eQ (Ext.refl b5.eQ) (show R ak fr'.s.h κ (.da []) undef from .da κ [] [] (.nil κ)) ts;simp only[Ld];obtain ⟨gk,hN,hS,gI,aB,aT,bp,eh⟩:=hP _ _ _ _ _ _ E κ ak (ah.ll aP ⟨some [],some [],fr'.s.n,fr'.s.n⟩ ks) k1 yM cK.2 (λm9=>by
    subst m9;obtain ⟨J,U⟩:=kc rfl;rw[mm,FY];simp only[ll,ah.ll];refine ⟨.cons _ _ _ _ ⟨λc aa=>absurd aa (by simp),.inl rfl,λb c Y=>?_,λb c Y=>?_,λh=>by simp at h,by simp,λws h2 b Y=>?_⟩ J,λx hx ws h2 b Y c hk aY=>?_⟩;have:=b5.eQ.lt b c Y;simp only[];constructor<;>intro<;>omega;have:=b5.eQ.lt b c Y;simp only[];constructor<;>intro<;>omega;simp only[cU]at h2;subst h2;cases Y;rcases hc.1 hx with rfl|hx
    simp only[cU]at h2;subst h2;cases Y;rcases U x hx ws h2 b Y c hk aY with ⟨y,aB,aT⟩|⟨y,aB,aT⟩
    exact .inl ⟨y,lG _ aB,aT⟩;exact .inr ⟨y,lG _ aB,aT⟩)
   rw[mm,FY]at bp;exact ⟨gk,hN,hS,gI,aB,aT,bp,eh⟩
  rename_i hw;simp only[aed b5.env hw];exact arR hP lN As b5 cK.1 cK.2 kc E
end
section
variable {ak m4:Nat->Prop}{h h':aJ hs}{κ hY:b8}{aq:Nat}{s bc aK iD:S}{s' ar7 bA o6:b9}{mz bR hN:b8}{q6 mI cx hS:Nat->Prop}{T:Types}{fr gk:F}{fr' gI:Fr}
theorem l3.move(b5:l3 aq κ ak fr fr')(e:Ext κ ak fr.s fr'.s bR cx aK bA)(m:dP aq bR cx aK bA){ms og:List Nat}(uQ:vv bR ms og):
  l3 aq bR cx { fr with s:=aK,ms:=ms } { fr' with s:=bA,ms:=og } :=
 ⟨b5.env.mono e.tV e.sN (e.le b5.eQ),b5.bG,m,uQ⟩
theorem Gl(m:dP aq κ ak s s'){l l':Nat}{r:Eh}(Z:s.h.get l=some (.loop r))(hk:κ l=some l'):∃r',s'.h.get l'=some (.loop r')∧BG aq ak s'.h κ r r':=by
 obtain ⟨o',J,r',rfl,U⟩:=m.obj l _ l' Z hk;exact ⟨r',J,U⟩
theorem GS(m:dP aq κ ak s s'){l l':Nat}{va r:Eh}{r':yk}(Z:s.h.get l=some (.loop va))(hk:κ l=some l')(E:BG aq ak s'.h κ r r'):
  Ext κ ak s s' κ ak (kR s l r) (ah.kR s' l' r')∧dP aq κ ak (kR s l r) (ah.kR s' l' r'):=by
 obtain ⟨J,U⟩:=GU m Z rfl hk (o:=.loop r) (o':=.loop r') ⟨r',rfl,E⟩;exact ⟨J.1,U⟩
theorem acS{rec:Rec}{eW:ah.Rec}(h1:Ed aq rec eW)(lN:Ec aq rec eW){ro fz:Option Nat}{f:Operand}{ps:Array Tmp}{assign body:Code}{d bK:Nat}{ms og:List Nat}
  (b5:l3 aq κ ak fr fr') (e:Ext κ ak fr.s fr'.s bR cx aK bA) (m:dP aq bR cx aK bA) (uQ:vv bR ms og) (ai:bR d=some bK) (gX:BO κ ro fz) (aM:tM aq f=true) (av:codeOk aq assign=true) (Y:codeOk aq body=true)
  {r:dG} (E:lY rec ro fr f ps assign body d ms aK=some r):
  ∃x gk hN hS gI,r=.code x gk∧ah.lY eW fz fr' f ps assign body bK og bA=some (.code x gI)∧Ext κ ak fr.s fr'.s hN hS gk.s gI.s∧l3 aq hN hS gk gI:=by
 have hle:=e.le b5.eQ;have n9:=b5.env.mono e.tV e.sN hle;have Qq:=n9.bl m.pk aM;unfold lY at E;unfold ah.lY;split at E
 ·rename_i g first captured au
  rw[au]at Qq;generalize yL:ah.bl fr'.e f=gj at Qq;cases Qq with
  |fn _ _ _ _ a8 a4 fO KP=>
   simp only[];have hk:=BV m;have gn:BG aq cx bA.h (bR.add aK.n bA.n) { state:=.ready,pending:=none,e:=fr.e,bG:=fr.bG,params:=ps.toList,assign:=assign,body:=body,defers:=d }
     { state:=.ready,pending:=none,fn:=0,e:=fr'.e,bG:=fr'.bG,params:=ps.toList,assign:=assign,body:=body,defers:=bK } :=
    ⟨rfl,rfl,n9.mono (λ_ h=>h) (λ_ _=>rfl) hk,b5.bG,rfl,rfl,rfl,hk _ _ ai,⟨av,Y⟩,.inl rfl⟩
   obtain ⟨aC,dR⟩:=wk m (o:=.loop { state:=.ready,pending:=none,e:=fr.e,bG:=fr.bG,params:=ps.toList,assign:=assign,body:=body,defers:=d })
    (o':=.loop { state:=.ready,pending:=none,fn:=0,e:=fr'.e,bG:=fr'.bG,params:=ps.toList,assign:=assign,body:=body,defers:=bK }) ⟨_,rfl,gn⟩
   have aC:=aC.1;have aaI:bR.add aK.n bA.n aK.n=some bA.n:=b8.add_same _ _ _;split at E
   ·rename_i v iD aa;obtain ⟨my,kB,hN,hS,w,o6,cL,cS,ds,gw,qK⟩:=lN _ _ _ _ aa _ cx (a8++(.func (.yield bA.n) #[] #[]::a4)) _ dR
     ((fO.mono (λ_ h=>h) aC.sN hk).append (.cons _ _ _ _ _ (.yield _ _ _ aaI) (KP.mono (λ_ h=>h) aC.sN hk))) (λhw=>by
      have:=m.ag.1;simp[newObj]at hw;omega)
    cases cL;simp only[cS];have aaJ:hN aK.n=some bA.n:=by rw[ds.sw _ (by simp[newObj])];exact aaI
    have cB:Ext κ ak fr.s fr'.s hN hS iD o6:=(e.trans aC m).trans ds dR;have amA:bR.le hN:=λb c Zo=>by
     have J:=m.lt b c Zo;rw[ds.sw b (by simp[newObj];omega)];exact hk b c Zo
    split at E
    ·rename_i va k2;obtain ⟨GM,FA,rm⟩:=Gl gw k2 aaJ;simp only[FA];have nd:∀st,BG aq hS o6.h hN { va with state:=st } { GM with state:=st } :=λst=>⟨rfl,rm.pending,rm.env,rm.bG,rm.params,rm.assign,rm.body,rm.defers,rm.ok,rm.wc⟩;obtain ⟨ba,dF⟩:=GS gw k2 aaJ (nd .exhausted);have ye:=cB.trans ba gw;have vT:=b5.move ye dF (uQ.mono amA);have jx:=rm.state;have sq:=rm.pending;cases FZ:va.state<;>rw[FZ]at E jx<;>rw[<-jx]<;>simp only[]at E ⊢ <;>try (cases E;done)
     all_goals
      cases aak:va.pending with
      |none=>
       rw[aak]at E sq ye vT dF;rw[<-sq]at ye vT dF ⊢;simp only[]at E ⊢;cases E;exact ⟨.normal,_,hN,hS,_,rfl,rfl,ye,vT⟩
      |some c=>
       have aG:=rm.wc;rw[aak]at E sq aG ye vT dF;rw[<-sq]at ye vT dF ⊢;simp only[]at E ⊢;have P9:codeOk aq c=true:=by
        rcases aG with h|h|⟨id,h⟩
        cases h;cases h;rfl;cases h;rfl
       obtain ⟨x,gk,atd,ahc,gI,fV,fH,fa,gY⟩:=h1 _ _ _ _ E hN hS fz _ P9 vT (gX.mono (ye.le b5.eQ));exact ⟨x,gk,atd,ahc,gI,fV,fH,ye.trans fa dF,gY⟩
    cases E
   cases E
 cases E
theorem aiW{rec:Rec}{eW:ah.Rec}(h1:Ed aq rec eW)(hP:Eo aq rec eW)(lN:Ec aq rec eW){c:Code}{ro fz:Option Nat}(cK:codeOk aq c=true)(b5:l3 aq κ ak fr fr')(gX:BO κ ro fz)
  {r:dG} (E:mS rec c ro fr=some r):
  ∃x gk bR cx gI,r=.code x gk∧ah.mS eW c fz fr'=some (.code x gI)∧Ext κ ak fr.s fr'.s bR cx gk.s gI.s∧l3 aq bR cx gk gI:=by
 have stay:∀x,∃TD gk bR cx gI,dG.code x fr=.code TD gk∧some (ah.dG.code x fr')=some (.code TD gI)∧Ext κ ak fr.s fr'.s bR cx gk.s gI.s∧l3 aq bR cx gk gI:=
  λx=>⟨x,fr,κ,ak,fr',rfl,rfl,Ext.refl b5.eQ,b5⟩
 cases c<;>simp only[mS]at E<;>simp only[ah.mS]<;>try (cases E;done)
 case skip=>cases E;exact stay _
 case label=>cases E;exact stay _
 case ret=>cases E;exact stay _
 case exit=>cases E;exact stay _
 case region k ops aP=>
  simp only[codeOk,dU]at cK;obtain ⟨gk,bR,cx,gI,J,U,aj,aH⟩:=hP _ _ _ _ _ _ E κ ak [] fr' b5 cK.1 (λ_=>⟨.nil,w4.nil κ ak⟩);exact ⟨.normal,gk,bR,cx,gI,J,U,aj,aH⟩
 case seq a b=>
  simp only[codeOk,dU]at cK;unfold pG at E;unfold ah.pG;cases a7:rec (.code a ro fr) with
  |none=>rw[a7]at E;cases E
  |some q=>
   obtain ⟨x,fK,mz,mI,k1,rfl,U,aj,aH⟩:=h1 _ _ _ _ a7 κ ak fz fr' cK.1 b5 gX;rw[a7]at E;rw[U];cases x<;>simp only[]at E ⊢;obtain ⟨x,gk,bR,cx,gI,aB,aT,bp,eh⟩:=h1 _ _ _ _ E mz mI fz k1 cK.2 aH (gX.mono (aj.le b5.eQ));exact ⟨x,gk,bR,cx,gI,aB,aT,aj.trans bp aH.eQ,eh⟩;cases E;exact ⟨_,fK,mz,mI,k1,rfl,rfl,aj,aH⟩;cases E;exact ⟨_,fK,mz,mI,k1,rfl,rfl,aj,aH⟩
 case cond c a b=>
  simp only[codeOk,dU]at cK;have aa:=b5.env.bl b5.eQ.pk cK.1.1;unfold qk at E;unfold ah.qk;split at E;rename_i e;rw[e]at aa;generalize iU:ah.bl fr'.e c=bj at aa;cases aa;simp only[];exact h1 _ _ _ _ E κ ak fz fr' cK.1.2 b5 gX;rename_i e;rw[e]at aa;generalize iU:ah.bl fr'.e c=bj at aa;cases aa;simp only[];exact h1 _ _ _ _ E κ ak fz fr' cK.2 b5 gX;cases E
 case block id c=>
  simp only[codeOk]at cK;unfold qj at E;unfold ah.qj;cases a7:rec (.code c ro fr) with
  |none=>rw[a7]at E;cases E
  |some q=>
   obtain ⟨x,fK,mz,mI,k1,rfl,U,aj,aH⟩:=h1 _ _ _ _ a7 κ ak fz fr' cK b5 gX;rw[a7]at E;rw[U];cases x<;>simp only[]at E ⊢;cases E;exact ⟨_,fK,mz,mI,k1,rfl,rfl,aj,aH⟩;rename_i j;cases aG:Nat.beq j id<;>rw[aG]at E<;>simp only[]at E ⊢ <;>cases E;exact ⟨_,fK,mz,mI,k1,rfl,rfl,aj,aH⟩;exact ⟨_,fK,mz,mI,k1,rfl,rfl,aj,aH⟩;cases E;exact ⟨_,fK,mz,mI,k1,rfl,rfl,aj,aH⟩
 case loop c=>
  have FP:=cK;simp only[codeOk]at FP;unfold o4 at E;unfold ah.o4;cases a7:rec (.code c ro fr) with
  |none=>rw[a7]at E;cases E
  |some q=>
   obtain ⟨x,fK,mz,mI,k1,rfl,U,aj,aH⟩:=h1 _ _ _ _ a7 κ ak fz fr' FP b5 gX;rw[a7]at E;rw[U];cases x<;>simp only[]at E ⊢;obtain ⟨x,gk,bR,cx,gI,aB,aT,bp,eh⟩:=h1 _ _ _ _ E mz mI fz k1 cK aH (gX.mono (aj.le b5.eQ));exact ⟨x,gk,bR,cx,gI,aB,aT,aj.trans bp aH.eQ,eh⟩;cases E;exact ⟨_,fK,mz,mI,k1,rfl,rfl,aj,aH⟩;cases E;exact ⟨_,fK,mz,mI,k1,rfl,rfl,aj,aH⟩
 case scope c=>
  simp only[codeOk]at cK;exact h1 _ _ _ _ E κ ak fz fr' cK b5 gX
 case rangeFunc f ps assign body=>
  simp only[codeOk,dU]at cK;unfold sJ at E;unfold ah.sJ;cases ro with
  |some l=>
   cases fz with
   |none=>exact gX.elim
   |some l'=>
    have hk:κ l=some l':=gX;simp only[]at E ⊢;split at E;rename_i va k2;obtain ⟨GM,FA,rm⟩:=Gl b5.eQ k2 hk;simp only[FA];exact acS h1 lN b5 (Ext.refl b5.eQ) b5.eQ b5.ms rm.defers gX cK.1.1 cK.1.2 cK.2 E;cases E
  |none=>
   cases fz with
   |some _=>exact gX.elim
   |none=>
    simp only[]at E ⊢;obtain ⟨aC,dR⟩:=wk b5.eQ (o:=.defs) (o':=.defs) rfl;exact acS (ro:=none) (fz:=none) h1 lN b5 aC.1 dR (.cons _ _ _ _ (b8.add_same _ _ _) (b5.ms.mono (BV b5.eQ))) (b8.add_same _ _ _) trivial cK.1.1 cK.1.2 cK.2 E
end
section
variable {ak m4:Nat->Prop}{h h':aJ hs}{κ hY:b8}{aq:Nat}{s bc aK iD:S}{s' ar7 bA o6:b9}{mz bR hN:b8}{q6 mI cx hS:Nat->Prop}{T:Types}{fr gk:F}{fr' gI:Fr}
theorem adv:∀ {ms og:List Nat} {s aK:S} {s':b9},shut ms s=some aK->dP aq κ ak s s'->vv κ ms og-> ∃bA,ah.shut og s'=some bA∧Ext κ ak s s' κ ak aK bA∧dP aq κ ak aK bA
 |[],_,s,aK,s',E,m,hm=>by
  cases hm;simp only[shut,cU]at E;subst E;exact ⟨s',rfl,Ext.refl m,m⟩
 |b::ms,_,s,aK,s',E,m,hm=>by
  cases hm with
  |cons _ c _ og hk hm=>
   unfold shut at E;unfold ah.shut;split at E;rename_i Y;obtain ⟨o',J,U⟩:=m.obj b _ c Y hk;have U:o'=.defs:=U;subst U;simp only[J];obtain ⟨aC,dR⟩:=GU m Y rfl hk (o:=.dead) (o':=.dead) trivial;obtain ⟨bA,aB,aT,bp⟩:=adv E dR hm;exact ⟨bA,aB,aC.1.trans aT dR,bp⟩;cases E
theorem SJ(m:dP aq κ ak fr.s fr'.s)(he:pO ak fr'.s.h κ fr.e fr'.e):∀ {rs:List ResultVar} {l:List V},lB T rs fr=some l-> ∃l',ah.lB T rs fr'=some l'∧c2 ak fr'.s.h κ l l'
 |[],l,E=>by
  simp only[lB,cU]at E;subst E;exact ⟨[],rfl,.nil _⟩
 |.tmp t::rs,l,E=>by
  unfold lB at E;unfold ah.lB;split at E;rename_i aby Z;cases E;obtain ⟨l',J,U⟩:=SJ m he Z;simp only[J];exact ⟨_,rfl,.cons _ _ _ _ _ (he t) U⟩;cases E
 |.cell a t::rs,l,E=>by
  unfold lB at E;unfold ah.lB;split at E;rename_i ti aO;split at E;rename_i v ad;split at E;rename_i aby Z;cases E;obtain ⟨l',J,U⟩:=SJ m he Z;obtain ⟨a8,w,aj,aH,bD⟩:=abv m ad (he a);simp only[aO,aj,aH,J];exact ⟨_,rfl,.cons _ _ _ _ _ bD U⟩;cases E;cases E;cases E
theorem asq{l:List V}{l':List Value}(Z:c2 ak h κ l l'):R ak h κ (pI l) (ah.pI l'):=by
 cases Z with
 |nil=>exact .da _ _ _ (.nil _)
 |cons _ v w l l' ad Z=>
  cases Z with
  |nil=>exact ad
  |cons _ Ha aek l l' anu Z=>exact .da _ _ _ (.cons _ _ _ _ _ ad (.cons _ _ _ _ _ anu Z))
theorem aoW{fn:Func}(b5:l3 aq κ ak fr fr'){r:dG}(E:leave T fn fr=some r):
  ∃v aK w bA,r=.val v aK∧ah.leave T fn fr'=some (.val w bA)∧Ext κ ak fr.s fr'.s κ ak aK bA∧dP aq κ ak aK bA∧R ak bA.h κ v w:=by
 unfold leave at E;unfold ah.leave;split at E;cases E;rename_i aK ae;obtain ⟨bA,J,U,aj⟩:=adv ae b5.eQ b5.ms;simp only[J];split at E;rename_i l Z;cases E;obtain ⟨l',aH,bD⟩:=SJ (fr:= { fr with s:=aK }) (fr':= { fr' with s:=bA }) aj (b5.env.mono U.tV U.sN (U.le b5.eQ)) Z;simp only[aH];exact ⟨_,_,_,_,rfl,rfl,U,aj,asq bD⟩;cases E
theorem aqi{r:dG}(hQ:dP aq κ ak s s')(x:Ext κ ak s s' bR cx aK bA)(dF:dP aq bR cx aK bA){v:V}{w:Value}(ad:R cx bA.h bR v w)(hw:s.n<=s.ag->s'.n<=s'.ag)(aM:iQ s' bA)
  (E:Dq s (some (.val v aK))=some r):∃Tu iD hN hS,r=.val Tu iD∧Ext κ ak s s' hN hS iD bA∧dP aq hN hS iD bA∧R hS bA.h hN Tu w:=by
 unfold Dq at E;simp only[]at E;generalize al:packed s aK v=p at E;obtain ⟨Tu,iD⟩:=p;simp only[]at E;cases E;unfold packed at al;split at al;rename_i aa;simp only[dU,eu]at aa;obtain ⟨hB,j0⟩:=aa;have pv:=hw hB;have v7:s'.n<=bA.ag:=x.DR s.n s'.n (λb c Y hle=>x.new b c hle Y) j0 pv;have od:∀c,c<s'.n->bA.h.get c=s'.h.get c:=λc aa=>(aM.k5 c aa).resolve_right (by rintro ⟨_,h⟩;omega);split at al;rename_i r E;subst al;obtain ⟨hN,hS,J,U,aj⟩:=aqj hQ x dF j0 hB od v7 ad E;exact ⟨_,_,hN,hS,rfl,J,U,aj⟩;cases al;exact ⟨_,_,bR,cx,rfl,x,dF,ad⟩;cases al;exact ⟨_,_,bR,cx,rfl,x,dF,ad⟩
theorem Pg{args:List V}{args':List Value}(av:c2 ak h κ args args'):pO ak h κ (aJ.ofList .leaf 0 args) (aJ.ofList .leaf 0 args'):=by
 intro t;have au:∀ {α:Type} (l:List α),(aJ.ofList .leaf 0 l).get t=l[t]? :=λl=>by
  rw[aJ.YG];by_cases aO:t<l.length;simp[aO];simp[aO,aJ.tb]
 simp only[bl,ah.bl,au];cases hx:args[t]? with
 |none=>exact .bad _ _
 |some v=>
  obtain ⟨v',J,U⟩:=av.get hx;rw[J];exact U
structure Jg(aq:Nat)(O:bo)(r4:ah.bo):Prop where
 no:∀f,O f=none-> ∀a s,r4 f a s=none
 yes:∀f g,O f=some g-> ∀args v (s:S),g args s=some v-> ∀(κ:b8) (ak:Nat->Prop) args' (s':b9),s.n<=s.ag->dP aq κ ak s s'->c2 ak s'.h κ args args'->(s.n<=s.ag->s'.n<=s'.ag)->
  ∃bR cx w bA,r4 f args' s'=some (w,bA)∧Ext κ ak s s' bR cx s bA∧dP aq bR cx s bA∧R cx bA.h bR v w
def Ef(aq:Nat)(G:aJ Func):Prop:= ∀f fn c,G.get f=some fn->fn.body=some c->codeOk aq c=true
theorem aiM{K:Nat->Bool}{O:bo}{r4:ah.bo}{G:aJ Func}(fv:Jg aq O r4)(jI:Ef aq G){rec:Rec}{eW:ah.Rec}(h1:Ed aq rec eW){f:Nat}{args:List V}{args':List Value}
  (vU:∀r,ah.nt r4 G T eW f args' s'=some r->iQ s' (sI r))
  (m:dP aq κ ak s s') (av:c2 ak s'.h κ args args') (hw:s.n<=s.ag->s'.n<=s'.ag) {r:dG} (E:nt K O G T rec f args s=some r):
  ∃v aK bR cx w bA,r=.val v aK∧ah.nt r4 G T eW f args' s'=some (.val w bA)∧Ext κ ak s s' bR cx aK bA∧dP aq bR cx aK bA∧R cx bA.h bR v w:=by
 unfold nt at E;unfold ah.nt at vU ⊢;split at E;rename_i g au;split at E;rename_i hle;split at E;rename_i v ad;cases E;obtain ⟨bR,cx,w,bA,J,U,aj,aH⟩:=fv.yes f g au args v s ad κ ak args' s' (by simpa [eu] using hle) m av hw;simp only[J];exact ⟨_,_,bR,cx,w,bA,rfl,rfl,U,aj,aH⟩;cases E;cases E;rename_i jK;have amH:=fv.no f jK args' s';rw[amH]at vU ⊢;simp only[]at vU ⊢;split at E;cases E;rename_i fn p4;simp only[p4]at vU ⊢;split at E;cases E;rename_i c aa;simp only[aa]at vU ⊢;split at E;cases E;rename_i hlen;rw[av.length]at hlen;simp only[hlen]at vU ⊢;have b5:l3 aq κ ak { e:=aJ.ofList .leaf 0 args,bG:=fn.ntmps,s:=s,ms:=[] } { e:=aJ.ofList .leaf 0 args',bG:=fn.ntmps,s:=s',ms:=[] } :=⟨Pg av,rfl,m,.nil⟩;have fin:∀ {x:r7} {fK:F},rec (.code c none { e:=aJ.ofList .leaf 0 args,bG:=fn.ntmps,s:=s,ms:=[] })=some (.code x fK)->AU K f s (leave T fn fK)=some r->
   ∃k1,eW (.code c none { e:=aJ.ofList .leaf 0 args',bG:=fn.ntmps,s:=s',ms:=[] })=some (.code x k1)∧
   ∃w bA,ah.leave T fn k1=some (.val w bA)∧((∀q,ah.leave T fn k1=some q->iQ s' (sI q))->
    ∃v aK bR cx,r=.val v aK∧Ext κ ak s s' bR cx aK bA∧dP aq bR cx aK bA∧R cx bA.h bR v w):=by
  intro x fK Y al;obtain ⟨TD,gk,mz,mI,k1,aC,aB,aT,bp⟩:=h1 _ _ _ _ Y κ ak none _ (jI f fn c p4 aa) b5 trivial;cases aC;refine ⟨k1,aB,?_⟩;cases Z:leave T fn fK with
  |none=>rw[Z]at al;unfold AU Dq at al;split at al<;>cases al
  |some q=>
   obtain ⟨v,aK,w,bA,rfl,cL,cS,ds,gw⟩:=aoW bp Z;rw[Z]at al;refine ⟨w,bA,cL,λaM=>?_⟩;unfold AU at al;split at al;cases al;exact ⟨v,aK,_,_,rfl,aT.trans cS bp.eQ,ds,gw⟩;exact aqi m (aT.trans cS bp.eQ) ds gw hw (aM _ cL) al
 split at E;rename_i fK Y;obtain ⟨k1,aB,w,bA,aT,bp⟩:=fin Y E;simp only[aB]at vU ⊢;obtain ⟨v,aK,bR,cx,cL,cS,ds,gw⟩:=bp vU;exact ⟨v,aK,bR,cx,w,bA,cL,aT,cS,ds,gw⟩;rename_i fK Y;obtain ⟨k1,aB,w,bA,aT,bp⟩:=fin Y E;simp only[aB]at vU ⊢;obtain ⟨v,aK,bR,cx,cL,cS,ds,gw⟩:=bp vU;exact ⟨v,aK,bR,cx,w,bA,cL,aT,cS,ds,gw⟩;cases E
theorem adk{bG:Nat} :∀ {ps:List Nat} {args:List V} {args':List Value} {e oR:aJ V} {aZ:aJ Value},qP ps args bG e=some oR->c2 ak h κ args args'->pO ak h κ e aZ->
  ∃Ya,ah.qP ps args' bG aZ=some Ya∧pO ak h κ oR Ya
 |[],[],_,e,oR,aZ,E,av,he=>by
  cases av;simp only[qP,cU]at E;subst E;exact ⟨aZ,rfl,he⟩
 |t::lE,v::vs,_,e,oR,aZ,E,av,he=>by
  cases av with
  |cons _ _ w _ ws ad Z=>
   unfold qP at E;unfold ah.qP;split at E;rename_i b6;simp only[b6];exact adk E Z (he.set t ad);cases E
 |[],_::_,_,_,_,_,E,_,_=>by cases E
 |_::_,[],_,_,_,_,E,_,_=>by cases E
theorem aqX{rec:Rec}{eW:ah.Rec}(h1:Ed aq rec eW){l l':Nat}{args:List V}{args':List Value}(m:dP aq κ ak s s')(hk:κ l=some l')(av:c2 ak s'.h κ args args'){r:dG}(E:mT rec l args s=some r):
  ∃v aK bR cx w bA,r=.val v aK∧ah.mT eW l' args' s'=some (.val w bA)∧Ext κ ak s s' bR cx aK bA∧dP aq bR cx aK bA∧R cx bA.h bR v w:=by
 unfold mT at E;unfold ah.mT;split at E
 ·rename_i va k2;obtain ⟨GM,FA,gn⟩:=Gl m k2 hk;simp only[FA];split at E
  ·cases E
  ·rename_i e he;obtain ⟨aZ,J,U⟩:=adk he av gn.env;rw[gn.params,gn.bG]at*;simp only[J];have b5:l3 aq κ ak { e:=e,bG:=GM.bG,s:=s,ms:=[] } { e:=aZ,bG:=GM.bG,s:=s',ms:=[] } :=⟨U,rfl,m,.nil⟩;split at E
   ·rename_i fK Y;obtain ⟨x,gk,mz,mI,k1,aC,aB,aT,bp⟩:=h1 _ _ _ _ Y κ ak (some l') _ gn.ok.1 b5 hk;cases aC;rw[gn.assign]at aB;simp only[aB];have FI:mz l=some l':=aT.le m _ _ hk;unfold vb at E;unfold ah.vb;split at E
    ·rename_i GN KR;obtain ⟨arb,amg,vP⟩:=Gl bp.eQ KR FI;simp only[amg];split at E
     ·rename_i jx;rw[<-vP.state,jx];simp only[];obtain ⟨ba,dF⟩:=GS bp.eQ KR FI (r:= { GN with state:=.busy }) (r':= { arb with state:=.busy })
       ⟨rfl,vP.pending,vP.env,vP.bG,vP.params,vP.assign,vP.body,vP.defers,vP.ok,vP.wc⟩
      have vT:=bp.move ba dF bp.ms;split at E
      ·rename_i x atM alS;obtain ⟨vg,atN,bR,cx,akg,cd,cL,cS,ds⟩:=h1 _ _ _ _ alS mz mI (some l') _ gn.ok.2 vT FI;cases cd;rw[gn.body]at cL;simp only[cL];have cB:=(aT.trans ba bp.eQ).trans cS dF;have uN:bR l=some l':=cB.le m _ _ hk;unfold endRound at E;unfold ah.endRound;split at E
       ·rename_i pE KS;obtain ⟨arc,amh,z3⟩:=Gl ds.eQ KS uN;simp only[amh];have nd:∀st mw,(mw=none∨mw=some .ret∨ ∃id,mw=some (.exit id))->BG aq cx akg.s.h bR { pE with state:=st,pending:=mw } { arc with state:=st,pending:=mw } :=λst mw aG=>
         ⟨rfl,rfl,z3.env,z3.bG,z3.params,z3.assign,z3.body,z3.defers,z3.ok,aG⟩
        cases x<;>simp only[]at E ⊢ <;>cases E;obtain ⟨ff,ly⟩:=GS ds.eQ KS uN (nd .ready none (.inl rfl));exact ⟨_,_,bR,cx,_,_,rfl,rfl,cB.trans ff ds.eQ,ly,.bool _ _⟩;rename_i id;obtain ⟨ff,ly⟩:=GS ds.eQ KS uN (nd .done (some (.exit id)) (.inr (.inr ⟨_,rfl⟩)));exact ⟨_,_,bR,cx,_,_,rfl,rfl,cB.trans ff ds.eQ,ly,.bool _ _⟩;obtain ⟨ff,ly⟩:=GS ds.eQ KS uN (nd .done (some .ret) (.inr (.inl rfl)));exact ⟨_,_,bR,cx,_,_,rfl,rfl,cB.trans ff ds.eQ,ly,.bool _ _⟩
       cases E
      cases E
     cases E
    cases E
   cases E
 cases E
theorem OE{K:Nat->Bool}{O:bo}{r4:ah.bo}{G:aJ Func}(fv:Jg aq O r4)(z4:zE r4)(jI:Ef aq G):∀n,Ed aq (go K O G T n) (ah.go r4 G T n)∧Eo aq (go K O G T n) (ah.go r4 G T n)∧
  Ec aq (go K O G T n) (ah.go r4 G T n)∧Oy aq (go K O G T n) (ah.go r4 G T n)
 |0=>by
  have aR:∀t r,go K O G T 0 t=some r->False:=λt r h=>by cases h
  exact ⟨λc ro fr r E=>(aR _ _ E).elim,λops aP bO l fr r E=>(aR _ _ E).elim,λf args s r E=>(aR _ _ E).elim,λl args s r E=>(aR _ _ E).elim⟩
 |n+1=>by
  obtain ⟨J,U,aj,aH⟩:=OE fv z4 jI n;refine ⟨λc ro fr r E κ ak fz fr' cK b5 gX=>?_,λops aP bO l fr r E κ ak ks fr' b5 cK kc=>?_,λf args s r E κ ak args' s' m av hw=>?_,λl args s r E κ ak l' args' s' m hk av=>?_⟩;exact aiW J U aj cK b5 gX E;exact arX U aj aH b5 cK kc E;exact aiM fv jI J (λq a7=>Fg T G z4 (n+1) (.call f args' s') q a7) m av hw E;exact aqX J m hk av E
end
end Go.ah.X
namespace Go.ah
open Go
section
def mG(rec eW:Rec):Prop:= ∀t r,rec t=some r->eW t=some r
variable {rec eW:Rec}{T:Types}
theorem yq{fr:Fr}{o:Oper}{v:Value}{s:b9}{c bj:Fr->Bool->Nat->Option dG}(aa:∀fr b m r,c fr b m=some r->bj fr b m=some r){r:dG}(h:done fr o v s c=some r):done fr o v s bj=some r:=by
 unfold done at h ⊢;split at h;cases h;exact aa _ _ _ _ h
theorem S1(Z:mG rec eW){ops:Array Oper}{aP:Bool}{bO:List fM}{o:Oper}{l:List Oper}{fr:Fr}{r:dG}(h:la T rec ops aP bO o l fr=some r):la T eW ops aP bO o l fr=some r:=by
 unfold la at h ⊢;split at h;cases h;exact yq (λ_ _ _ _ h=>Z _ _ h) h;split at h;rename_i a7;simp only[Z _ _ a7];exact yq (λ_ _ _ _ h=>Z _ _ h) h;cases h;split at h;rename_i a7;simp only[Z _ _ a7];exact yq (λ_ _ _ _ h=>Z _ _ h) h;cases h
theorem S3(Z:mG rec eW){ops:Array Oper}{aP:Bool}{bO:List fM}{l:List Oper}{fr:Fr}{r:dG}(h:j4 T rec ops aP bO l fr=some r):j4 T eW ops aP bO l fr=some r:=by
 unfold j4 at h ⊢;cases l with
 |nil=>exact h
 |cons o l=>
  simp only[]at h ⊢;cases hw:jQ ops fr.e o<;>rw[hw]at h<;>simp only[]at h ⊢;exact yq (λ_ _ _ _ h=>Z _ _ h) h;exact S1 Z h
theorem G1(Z:mG rec eW){ro:Option Nat}{fr:Fr}{f:Operand}{ps:Array Tmp}{a b:Code}{d:Nat}{ms:List Nat}{s:b9}{r:dG}(h:lY rec ro fr f ps a b d ms s=some r):lY eW ro fr f ps a b d ms s=some r:=by
 unfold lY at h ⊢;split at h;split at h;rename_i a7;simp only[Z _ _ a7];split at h;split at h;cases h;split at h;rename_i al;rw[al]at h ⊢;exact h;rename_i al;rw[al]at h ⊢;exact Z _ _ h;cases h;cases h;cases h
theorem S0(Z:mG rec eW){c:Code}{ro:Option Nat}{fr:Fr}{r:dG}(h:mS rec c ro fr=some r):mS eW c ro fr=some r:=by
 cases c<;>simp only[mS]at h ⊢ <;>try first|exact h|exact Z _ _ h
 case seq a b=>
  unfold pG at h ⊢;cases a7:rec (.code a ro fr) with
  |none=>rw[a7]at h;cases h
  |some q=>
   rw[a7]at h;rw[Z _ _ a7];split at h;exact Z _ _ h;exact h
 case cond c a b=>
  unfold qk at h ⊢;split at h;exact Z _ _ h;exact Z _ _ h;cases h
 case block id c=>
  unfold qj at h ⊢;cases a7:rec (.code c ro fr) with
  |none=>rw[a7]at h;cases h
  |some q=>rw[a7]at h;rw[Z _ _ a7];exact h
 case loop c=>
  unfold o4 at h ⊢;cases a7:rec (.code c ro fr) with
  |none=>rw[a7]at h;cases h
  |some q=>
   rw[a7]at h;rw[Z _ _ a7];split at h;exact Z _ _ h;exact h
 case rangeFunc f ps a b=>
  unfold sJ at h ⊢;cases ro with
  |none=>exact G1 Z h
  |some l=>
   simp only[]at h ⊢;split at h;exact G1 Z h;cases h
theorem SZ{O:bo}{G:aJ Func}(Z:mG rec eW){f:Nat}{args:List Value}{s:b9}{r:dG}(h:nt O G T rec f args s=some r):nt O G T eW f args s=some r:=by
 unfold nt at h ⊢;split at h;rename_i aE;first|exact h|(simp only[aE];exact h)
 rename_i aE;try simp only[aE]
 split at h;cases h;rename_i fn p4;try simp only[p4]
 split at h;cases h;rename_i c aa;try simp only[aa]
 split at h;cases h;rename_i hle;try simp only[hle]
 split at h;rename_i a7;simp only[Z _ _ a7];exact h;rename_i a7;simp only[Z _ _ a7];exact h;cases h
theorem S2(Z:mG rec eW){l:Nat}{args:List Value}{s:b9}{r:dG}(h:mT rec l args s=some r):mT eW l args s=some r:=by
 unfold mT at h ⊢;split at h;split at h;cases h;split at h;rename_i a7;simp only[Z _ _ a7];unfold vb at h ⊢;split at h;split at h;split at h;rename_i a7;simp only[Z _ _ a7];exact h;cases h;cases h;cases h;cases h;cases h
theorem S4{O:bo}{G:aJ Func}(Z:mG rec eW):mG (MB O G T rec) (MB O G T eW):=by
 intro t r h;cases t with
 |code c ro fr=>exact S0 Z h
 |run ops aP bO l fr=>exact S3 Z h
 |call f args s=>exact SZ Z h
 |round l args s=>exact S2 Z h
theorem Fh{O:bo}{G:aJ Func} :∀n,mG (go O G T n) (go O G T (n+1))
 |0=>λt r h=>by cases h
 |n+1=>S4 (Fh n)
theorem Cu{O:bo}{G:aJ Func}{n m:Nat}(h:n<=m):mG (go O G T n) (go O G T m):=by
 induction h with
 |refl=>exact λ_ _ h=>h
 |step _ a3=>exact λt r h=>Fh _ t r (a3 t r h)
theorem PH{O:bo}{G:aJ Func}{n m:Nat}{t:Task}{r q:dG}(h:go O G T n t=some r)(h':go O G T m t=some q):r=q:=by
 rcases Nat.le_total n m with Z|Z
 have:=Cu Z t r h;rw[h']at this;exact (Option.some.inj this).symm;have:=Cu Z t q h';rw[h]at this;exact Option.some.inj this
end
end Go.ah
namespace Go.ah.X
open Go
section
def mG(rec eW:Rec):Prop:= ∀t r,rec t=some r->eW t=some r
variable {rec eW:Rec}{T:Types}{K:Nat->Bool}
theorem yq{fr:F}{o:Oper}{v:V}{s:S}{c bj:F->Bool->Nat->Option dG}(aa:∀fr b m r,c fr b m=some r->bj fr b m=some r){r:dG}(h:done fr o v s c=some r):done fr o v s bj=some r:=by
 unfold done at h ⊢;split at h;cases h;exact aa _ _ _ _ h
theorem ajk{fr:F}{o:Oper}{v:V}{bs:List Nat}{s:S}{c bj:F->Bool->Nat->Option dG}(aa:∀fr b m r,c fr b m=some r->bj fr b m=some r){r:dG}(h:vG fr o v bs s c=some r):vG fr o v bs s bj=some r:=by
 unfold vG at h ⊢;split at h;cases h;exact aa _ _ _ _ h
theorem S1(Z:mG rec eW){ops:Array Oper}{aP:Bool}{bO:List ct}{o:Oper}{l:List Oper}{fr:F}{r:dG}(h:la K T rec ops aP bO o l fr=some r):la K T eW ops aP bO o l fr=some r:=by
 unfold la at h ⊢;split at h;cases h;exact yq (λ_ _ _ _ h=>Z _ _ h) h;split at h;rename_i ry;try simp only[ry]
 split at h;rename_i a7;simp only[Z _ _ a7];exact ajk (λ_ _ _ _ h=>Z _ _ h) h;cases h;split at h;rename_i a7;simp only[Z _ _ a7];exact yq (λ_ _ _ _ h=>Z _ _ h) h;cases h
theorem S3(Z:mG rec eW){ops:Array Oper}{aP:Bool}{bO:List ct}{l:List Oper}{fr:F}{r:dG}(h:j4 K T rec ops aP bO l fr=some r):j4 K T eW ops aP bO l fr=some r:=by
 unfold j4 at h ⊢;cases l with
 |nil=>exact h
 |cons o l=>
  simp only[]at h ⊢;split at h;cases h;rename_i hw;try simp only[hw]
  exact yq (λ_ _ _ _ h=>Z _ _ h) h;rename_i hw;try simp only[hw]
  exact S1 Z h
theorem G1(Z:mG rec eW){ro:Option Nat}{fr:F}{f:Operand}{ps:Array Tmp}{a b:Code}{d:Nat}{ms:List Nat}{s:S}{r:dG}(h:lY rec ro fr f ps a b d ms s=some r):lY eW ro fr f ps a b d ms s=some r:=by
 unfold lY at h ⊢;split at h;split at h;rename_i a7;simp only[Z _ _ a7];split at h;split at h;cases h;split at h;rename_i al;rw[al]at h ⊢;exact h;rename_i al;rw[al]at h ⊢;exact Z _ _ h;cases h;cases h;cases h
theorem S0(Z:mG rec eW){c:Code}{ro:Option Nat}{fr:F}{r:dG}(h:mS rec c ro fr=some r):mS eW c ro fr=some r:=by
 cases c<;>simp only[mS]at h ⊢ <;>try first|exact h|exact Z _ _ h
 case seq a b=>
  unfold pG at h ⊢;cases a7:rec (.code a ro fr) with
  |none=>rw[a7]at h;cases h
  |some q=>
   rw[a7]at h;rw[Z _ _ a7];split at h;exact Z _ _ h;exact h
 case cond c a b=>
  unfold qk at h ⊢;split at h;exact Z _ _ h;exact Z _ _ h;cases h
 case block id c=>
  unfold qj at h ⊢;cases a7:rec (.code c ro fr) with
  |none=>rw[a7]at h;cases h
  |some q=>rw[a7]at h;rw[Z _ _ a7];exact h
 case loop c=>
  unfold o4 at h ⊢;cases a7:rec (.code c ro fr) with
  |none=>rw[a7]at h;cases h
  |some q=>
   rw[a7]at h;rw[Z _ _ a7];split at h;exact Z _ _ h;exact h
 case rangeFunc f ps a b=>
  unfold sJ at h ⊢;cases ro with
  |none=>exact G1 Z h
  |some l=>
   simp only[]at h ⊢;split at h;exact G1 Z h;cases h
theorem SZ{K:Nat->Bool}{O:bo}{G:aJ Func}(Z:mG rec eW){f:Nat}{args:List V}{s:S}{r:dG}(h:nt K O G T rec f args s=some r):nt K O G T eW f args s=some r:=by
 unfold nt at h ⊢;split at h;rename_i aE;first|exact h|(simp only[aE];exact h)
 rename_i aE;try simp only[aE]
 split at h;cases h;rename_i fn p4;try simp only[p4]
 split at h;cases h;rename_i c aa;try simp only[aa]
 split at h;cases h;rename_i hle;try simp only[hle]
 split at h;rename_i a7;simp only[Z _ _ a7];exact h;rename_i a7;simp only[Z _ _ a7];exact h;cases h
theorem S2(Z:mG rec eW){l:Nat}{args:List V}{s:S}{r:dG}(h:mT rec l args s=some r):mT eW l args s=some r:=by
 unfold mT at h ⊢;split at h;split at h;cases h;split at h;rename_i a7;simp only[Z _ _ a7];unfold vb at h ⊢;split at h;split at h;split at h;rename_i a7;simp only[Z _ _ a7];exact h;cases h;cases h;cases h;cases h;cases h
theorem S4{O:bo}{G:aJ Func}(Z:mG rec eW):mG (step K O G T rec) (step K O G T eW):=by
 intro t r h;cases t with
 |code c ro fr=>exact S0 Z h
 |run ops aP bO l fr=>exact S3 Z h
 |call f args s=>exact SZ Z h
 |round l args s=>exact S2 Z h
theorem Fh{O:bo}{G:aJ Func} :∀n,mG (go K O G T n) (go K O G T (n+1))
 |0=>λt r h=>by cases h
 |n+1=>S4 (Fh n)
theorem Cu{O:bo}{G:aJ Func}{n m:Nat}(h:n<=m):mG (go K O G T n) (go K O G T m):=by
 induction h with
 |refl=>exact λ_ _ h=>h
 |step _ a3=>exact λt r h=>Fh _ t r (a3 t r h)
theorem PH{O:bo}{G:aJ Func}{n m:Nat}{t:Task}{r q:dG}(h:go K O G T n t=some r)(h':go K O G T m t=some q):r=q:=by
 rcases Nat.le_total n m with Z|Z
 have:=Cu Z t r h;rw[h']at this;exact (Option.some.inj this).symm;have:=Cu Z t q h';rw[h]at this;exact Option.some.inj this
end
end Go.ah.X
