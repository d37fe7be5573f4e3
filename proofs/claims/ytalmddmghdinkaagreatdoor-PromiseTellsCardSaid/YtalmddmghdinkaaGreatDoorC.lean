/-
  A part: lemmas; conditions: those that each names.
-/
import Derived.Laws.StructEq
import Derived.Laws.Tables
import Derived.Laws.MakeOwn
import Derived.Laws.BytesArg
import Derived.Test.YtalmddmghdinkaaGreatDoorB
set_option linter.all false
set_option linter.deprecated false
noncomputable section
namespace Go.ah
open Go
section
variable {aq:Nat}{T:Types}{B:Nat}{ι:bF}{aQ:Nat->Prop}{s s':b9}{w w':World}{P:Program}
theorem aq6{op:BinOp}{k:IntKind}{a b:Int}{v:Value}(ad:qF op k a b=some v)(t:Nat)(w:World):(Go.binOp op t (.int k a) (.int k b)).run P w=.ok v w:=by
 cases op<;>simp[qF]at ad<;>
  first
  |(obtain ⟨aR,rfl⟩:=ad;simp[Go.binOp,Op.intDiv,aR];done)
  |(subst ad;simp[Go.binOp,Op.intArith,Op.intCmp,Op.intBits];done)
theorem aq5(op:BinOp)(t:Nat)(x y:Operand)(k k':IntKind)(a b:Int)(w:World):(Go.eqGuard op t x y (.int k a) (.int k' b)).run P w=.ok () w:=by
 cases op<;>simp[Go.eqGuard]
theorem asQ(cA:iF P T){t:Nat}{ti:cb}(aO:T.get t=some ti){x x' y dY:Value}(hx:cE ι x x')(aI:cE ι y dY){b:Bool}(Y:rY ti x y=some b)(w:World):
  (∀d,(Op.equalIn (d+1) t x' dY).run P w=.ok b w)∧ ∀op a c,(Go.eqGuard op t a c x' dY).run P w=.ok () w:=by
 have ok:=cA t ti aO;unfold rY at Y;split at Y;rename_i hk;have hu:=ok.bool hk;simp at Y;subst Y;cases hx;cases aI;exact ⟨λd=>by simp[Op.equalIn,run_underlying hu],λop a c=>by cases op<;>simp[Go.eqGuard]⟩;rename_i hk;have hu:=ok.pointer hk;simp at Y;subst Y;cases hx;cases aI<;>exact ⟨λd=>by simp[Op.equalIn,run_underlying hu],λop a c=>by cases op<;>simp[Go.eqGuard]⟩;rename_i hk;have hu:=ok.pointer hk;simp at Y;subst Y;cases hx;cases aI;exact ⟨λd=>by simp[Op.equalIn,run_underlying hu],λop a c=>by cases op<;>simp[Go.eqGuard]⟩;rename_i hk;have hu:=ok.slice hk;simp at Y;subst Y;cases hx;cases aI<;>exact ⟨λd=>by simp[Op.equalIn,run_underlying hu],λop a c=>by cases op<;>simp[Go.eqGuard]⟩;rename_i hk;have hu:=ok.slice hk;simp at Y;subst Y;cases aI;cases hx<;>exact ⟨λd=>by simp[Op.equalIn,run_underlying hu],λop a c=>by cases op<;>simp[Go.eqGuard]⟩;rename_i hk;have hu:=ok.map hk;simp at Y;subst Y;cases hx;cases aI<;>exact ⟨λd=>by simp[Op.equalIn,run_underlying hu],λop a c=>by cases op<;>simp[Go.eqGuard]⟩;rename_i hk;have hu:=ok.map hk;simp at Y;subst Y;cases hx;cases aI;exact ⟨λd=>by simp[Op.equalIn,run_underlying hu],λop a c=>by cases op<;>simp[Go.eqGuard]⟩;rename_i hk;obtain ⟨_,_,_,hu⟩:=ok.func hk;simp at Y;subst Y;cases hx;cases aI;exact ⟨λd=>by simp[Op.equalIn,run_underlying hu],λop a c=>by cases op<;>simp[Go.eqGuard]⟩;rename_i hk;obtain ⟨_,_,_,hu⟩:=ok.func hk;simp at Y;subst Y;cases hx;cases aI<;>exact ⟨λd=>by simp[Op.equalIn,run_underlying hu],λop a c=>by cases op<;>simp[Go.eqGuard]⟩;rename_i hk;obtain ⟨_,_,_,hu⟩:=ok.func hk;simp at Y;subst Y;cases aI;cases hx<;>exact ⟨λd=>by simp[Op.equalIn,run_underlying hu],λop a c=>by cases op<;>simp[Go.eqGuard]⟩;cases Y
theorem Rx:∀ {l l':List Value} {a:List Int},dJ ι l l'->qE l=some a->l'=a.map (Value.int .i64)
 |[],_,a,h,e=>by
  cases h;simp only[qE,cU]at e;subst e;rfl
 |v::l,_,a,h,e=>by
  cases h with
  |cons _ v' _ l' h Z=>
   unfold qE at e;split at e;rename_i heq;cases heq;rename_i b r heq;cases heq;cases h;split at e;rename_i r' E;cases e;rw[Rx Z E];rfl;cases e;cases e
theorem ad7(cA:iF P T){t:Nat}{ti:cb}(aO:T.get t=some ti){x x' y dY:Value}(hx:cE ι x x')(aI:cE ι y dY){b:Bool}(Y:l0 ti x y=some b)(w:World):
  (Op.equal t x' dY).run P w=.ok b w∧ ∀op a c,(Go.eqGuard op t a c x' dY).run P w=.ok () w:=by
 unfold l0 at Y;split at Y;cases hx with
 |agg l l' Z=>
  cases aI with
  |agg m jA hm=>
   unfold MO at Y;split at Y;rename_i a c av aa;split at Y;rename_i he;simp only[dU,qV]at he;cases Y;obtain ⟨g,h⟩:=(cA t ti aO).eqs he.1;have aC:=Rx Z av;have ba:=Rx hm aa;subst aC ba;exact ⟨h _ _ w he.2.1 he.2.2,λop x y=>run_eqGuard_agg w op t x y _ _ g⟩;cases Y;cases Y
 obtain ⟨J,U⟩:=asQ (P:=P) cA aO hx aI Y w;exact ⟨J 9999,U⟩
theorem abR{ti:cb}{x y:Value}{b:Bool}(h:l0 ti x y=some b):∀k a,x≠ .int k a:=by
 intro k a e;subst e;unfold l0 rY at h;split at h<;>simp_all
theorem apO(cA:iF P T){op:BinOp}{t:Nat}{x x' y dY:Value}(hx:cE ι x x')(aI:cE ι y dY){v:Value}(Y:bin op (T.get t) x y=some v)(acf acg:Operand)(w:World):
  ((do Go.eqGuard op t acf acg x' dY;Go.binOp op t x' dY:Sem Value).run P w=.ok v w)∧cE ι v v:=by
 unfold bin at Y;split at Y;rename_i k a k' b;cases hx;cases aI;have au:=aq5 (P:=P) op t acf acg k k' a b w;split at Y;unfold Ly at Y;split at Y;cases Y;rename_i aR;simp at Y;subst Y;exact ⟨by simp[au,Go.binOp,Op.shift,aR],.int _ _⟩;unfold Ly at Y;split at Y;cases Y;rename_i aR;simp at Y;subst Y;exact ⟨by simp[au,Go.binOp,Op.shift,aR],.int _ _⟩;split at Y;rename_i e;subst e;have:=aq6 (P:=P) Y t w;refine ⟨by simp[au,this],?_⟩;cases op<;>simp[qF]at Y<;>first|(obtain ⟨_,rfl⟩:=Y;constructor;done)|(subst Y;constructor;done)
 cases Y;rename_i a b;cases hx;cases aI;unfold SO at Y;split at Y;simp at Y;subst Y;exact ⟨by simp[Go.eqGuard,Go.binOp,Op.stringOp],.bool _⟩;simp at Y;subst Y;exact ⟨by simp[Go.eqGuard,Go.binOp,Op.stringOp],.bool _⟩;cases Y;rename_i auT yU;split at Y;rename_i ti Rc;split at Y;rename_i b a7;simp at Y;subst Y;obtain ⟨J,U⟩:=ad7 (P:=P) cA Rc hx aI a7 w;refine ⟨?_,.bool _⟩;have P2:Go.binOp .eql t x' dY=(do pure (.bool (<-Op.equal t x' dY))):=by
  cases hx<;>first
   |(exact absurd rfl (abR a7 _ _))
   |(cases aI<;>first|rfl|(exfalso;exact yU _ _ rfl rfl)|(simp[l0,rY]at a7))
 simp[U,P2,J];cases Y;rename_i ti Rc;split at Y;rename_i b a7;simp at Y;subst Y;obtain ⟨J,U⟩:=ad7 (P:=P) cA Rc hx aI a7 w;refine ⟨?_,.bool _⟩;have P2:Go.binOp .neq t x' dY=(do pure (.bool (!(<-Op.equal t x' dY)))):=by
  cases hx<;>first
   |(exact absurd rfl (abR a7 _ _))
   |(cases aI<;>first|rfl|(exfalso;exact yU _ _ rfl rfl)|(simp[l0,rY]at a7))
 simp[U,P2,J];cases Y;cases Y
theorem ap5{op:UnOp}{x x':Value}(hx:cE ι x x'){v:Value}(Y:un op x=some v)(w:World):(Op.unary op x').run P w=.ok v w∧cE ι v v:=by
 unfold un at Y;split at Y;cases hx;simp at Y;subst Y;exact ⟨by simp[Op.unary,Op.intArith],.int _ _⟩;cases hx;simp at Y;subst Y;exact ⟨by simp[Op.unary,Op.intBits],.int _ _⟩;cases hx;simp at Y;subst Y;exact ⟨by simp[Op.unary],.bool _⟩;cases Y
theorem DP{k:IntKind}{n:Int}{v:Value}(h:cE ι (.int k n) v):v=.int k n:=by cases h;rfl
theorem SM{lU:Nat}{k:IntKind}{a:Int}(hu:P.underlying lU=some (.int k)):∀ {es:List (Value×Value)} {ms:List MapEntry},lh ι es ms-> ∀ {q:IntKind} {r:Option Value},
  kr (.int q a) es=some r-> ∀i,(r=none∧Instr.findNow (.int k) (.int q a) ms i=some none)∨
   ∃v j m,r=some v∧ms[j]? =some m∧m.key=.int q a∧Instr.findNow (.int k) (.int q a) ms i=some (some (i+j,m.val))∧cE ι v m.val∧
    ∀x,lh ι (mQ (.int q a) x es) (ms.modify j λe=> { e with key:=.int q a,val:=m.val })∨True
 |[],[],_,q,r,h,i=>by
  simp[kr]at h;subst h;exact .inl ⟨rfl,rfl⟩
 |[],_::_,h,_,_,_,_=>h.elim
 |(_,_)::_,[],h,_,_,_,_=>h.elim
 |(x,v)::es,m::ms,⟨J,U,aj⟩,q,r,h,i=>by
  cases x with
  |int cS b=>
   have hm:=DP J;simp only[kr]at h;split at h;rename_i FT;subst FT;split at h;rename_i lr;subst lr;simp at h;subst h;exact .inr ⟨v,0,m,rfl,rfl,hm,by simp[Instr.findNow,hm,Instr.sameNow],U,λ_=>.inr trivial⟩;rename_i lr;have aM:(a == b)=false:=by simpa using lr
   rcases SM hu aj h (i+1) with ⟨rfl,E⟩|⟨u,j,jA,rfl,aG,hk,E,eb,_⟩
   exact .inl ⟨rfl,by simp[Instr.findNow,hm,Instr.sameNow,aM,E]⟩;exact .inr ⟨u,j+1,jA,rfl,by simpa using aG,hk,by simp[Instr.findNow,hm,Instr.sameNow,aM,E];omega,eb,λ_=>.inr trivial⟩;cases h
  |_=>simp[kr]at h
theorem Yi{k:IntKind}{q:IntKind}{a:Int} :∀ {ms:List MapEntry} {m:MapEntry} {i:Nat},(∀e∈ms,∃b,e.key=.int q b)->(ms.map λe=>LJ e.key).Nodup->m∈ms->m.key=.int q a-> ∃j,Instr.findNow (.int k) (.int q a) ms i=some (some (j,m.val))
 |e::ms,m,i,h,a5,hm,hk=>by
  obtain ⟨b,Y⟩:=h e (j5 ..);simp only[jE,List.nodup_cons]at a5;by_cases lr:a=b;subst lr;rcases hc.1 hm with rfl|hm
  exact ⟨i,by simp[Instr.findNow,Instr.sameNow,Y]⟩;exact absurd (qn.2 ⟨m,hm,by rw[hk,Y]⟩) a5.1;rcases hc.1 hm with rfl|hm
  rw[Y]at hk;cases hk;exact absurd rfl lr;obtain ⟨j,aG⟩:=Yi (k:=k) (i:=i+1) (λe he=>h e (lG _ he)) a5.2 hm hk;have aM:(a == b)=false:=by simpa using lr
  exact ⟨j,by simp[Instr.findNow,Instr.sameNow,Y,aM,aG]⟩
theorem Yk{k:IntKind}{q:IntKind}{a:Int} :∀ {ms:List MapEntry} {i:Nat},(∀e∈ms,∃b,e.key=.int q b∧b≠a)->Instr.findNow (.int k) (.int q a) ms i=some none
 |[],i,_=>rfl
 |e::ms,i,h=>by
  obtain ⟨b,Y,ey⟩:=h e (j5 ..);have aM:(a == b)=false:=by simpa using λh=>ey h.symm
  simp[Instr.findNow,Instr.sameNow,Y,aM,Yk (i:=i+1) λe he=>h e (lG _ he)]
theorem Yj{q:IntKind}{a:Int} :∀ {es:List (Value×Value)} {ms:List MapEntry} {r:Option Value},lh ι es ms->kr (.int q a) es=some r->(r=none-> ∀e∈ms,∃b,e.key=.int q b∧b≠a)
 |[],[],_,_,_=>λ_ e he=>by cases he
 |[],_::_,_,h,_=>h.elim
 |(_,_)::_,[],_,h,_=>h.elim
 |(x,v)::es,m::ms,r,⟨J,U,aj⟩,h=>by
  cases x with
  |int cS b=>
   have hm:=DP J;simp only[kr]at h;split at h;rename_i FT;subst FT;split at h;simp at h;subst h;intro h;cases h;rename_i lr;intro E e he;rcases hc.1 he with rfl|he
   exact ⟨b,hm,λh=>lr h.symm⟩;exact Yj aj h E e he;cases h
  |_=>simp[kr]at h
theorem aj4{q GG:IntKind}{a:Int}{es:List (Value×Value)}{l:List MapEntry}{r:Option Value}(al:lh ι es l)(h:kr (.int q a) es=some r)(a7:∀e∈l,∃b,e.key=.int GG b):∀e∈l,∃b,e.key=.int q b:=by
 cases l with
 |nil=>intro e he;cases he
 |cons m ms=>
  cases es with
  |nil=>exact al.elim
  |cons p es=>
   obtain ⟨x,v⟩:=p;obtain ⟨J,_⟩:=al;cases x with
   |int cS b=>
    have hm:=DP J;obtain ⟨a4,Y⟩:=a7 m (j5 ..);rw[hm]at Y;cases Y;simp only[kr]at h;split at h;rename_i e;subst e;exact a7;cases h
   |_=>simp[kr]at h
theorem aq8{k q:IntKind}{a:Int}{lU:Nat}(hu:P.underlying lU=some (.int k)){own:Bool}{es:List (Value×Value)}{l ms:List MapEntry}(al:lh ι es l)(hx:Oo own l ms){r:Option Value}
  (h:kr (.int q a) es=some r):(r=none∧Instr.findNow (.int k) (.int q a) ms 0=some none)∨ ∃v j m,r=some v∧Instr.findNow (.int k) (.int q a) ms 0=some (some (j,m.val))∧cE ι v (MapEntry.val m):=by
 rcases hx with rfl|⟨_,Lb,a5,GG,a7⟩
 rcases SM hu al h 0 with ⟨rfl,E⟩|⟨u,j,m,rfl,aG,CO,E,eb,_⟩
 exact .inl ⟨rfl,E⟩;exact .inr ⟨u,_,m,rfl,E,eb⟩;have a7:=aj4 al h a7;rcases SM hu al h 0 with ⟨rfl,E⟩|⟨u,j,m,rfl,aG,CO,E,eb,_⟩
 exact .inl ⟨rfl,Yk λe he=>Yj al h rfl e (Lb.mem_iff.2 he)⟩;obtain ⟨j,aG⟩:=Yi (k:=k) (i:=0) (λe he=>a7 e (Lb.mem_iff.2 he)) ((Lb.map _).nodup_iff.1 a5) (Lb.mem_iff.1 (hR aG)) CO;exact .inr ⟨u,j,m,rfl,aG,eb⟩
theorem ap0(cA:iF P T)(h:fZ aq T ι aQ B s w){t:Nat}{x x' c1 y9:Value}(hx:cE ι x x')(hl:cE ι c1 y9)(ai:∀r,x=.map (some r)->aQ r){ok:Bool}{v:Value}
  (Z:sz T t s x c1 ok=some v):∃v',(Instr.lookup t x' y9 ok).run P w=.ok v' w∧cE ι v v':=by
 unfold sz at Z;split at Z;rename_i lU Bb _ _ _ aO;split at Z;rename_i k _ _ _ sM hk ad;have Gz:=(cA t _ aO).map rfl;have Dn:=(cA lU _ hk).int rfl;have L3:=cA Bb _ ad;split at Z;rename_i es q a oa;split at Z;rename_i f aM;simp at Z;subst Z;have KV:=DP hl;subst KV;have xr:∀e d,(Instr.checkKey e (d+1) lU (.int q a)).run P w=.ok () w:=λe d=>by simp[Instr.checkKey,run_underlying Dn]
 have xr:=λe=>xr e 9999;have Fy:∀(ms:Array MapEntry) r,Instr.findNow (.int k) (.int q a) ms.toList 0=some r->(Instr.findKey lU (.int q a) ms.toList).run P w=.ok r w:=λms r E=>by
  simp[Instr.findKey,run_underlying Dn,E]
 have key:∃(ms:Array MapEntry) (l:List MapEntry) (own:Bool),lh ι es l∧Oo own l ms.toList∧ ∀(r:Option (Nat×Value)) (v':Value),Instr.findNow (.int k) (.int q a) ms.toList 0=some r->
   ((match r with
    |some (_,v)=>do
     let x <-pure (v,true)
     pure (if ok=true then Value.tuple #[x.1,.bool x.2] else x.1)
    |none=>do
     let z <-zeroValue Bb;let x <-pure (z,false)
     pure (if ok=true then Value.tuple #[x.1,.bool x.2] else x.1):Sem Value).run P w=.ok v' w)->(Instr.lookup t x' (.int q a) ok).run P w=.ok v' w:=by
  cases hx<;>simp[AI]at oa;subst oa;refine ⟨#[],[],true,trivial,.inl rfl,λr v' E fx=>?_⟩;simp only[Instr.lookup,Sem.run_bind,run_underlying Gz,Result.andThen_ok,Sem.run_pure,xr,Fy _ r E];exact fx;rename_i b i hi;split at oa;rename_i iS own Y;simp at oa;subst oa;obtain ⟨ms,clock,uQ,l,al,hx⟩:=(h.obj b _ i (ai b rfl) Y hi).there;refine ⟨ms,l,_,al,hx,λr v' E fx=>?_⟩;have au:(getObj i.r).run P w=.ok (.map ms clock) w:=by simp[getObj,Sem.run,uQ]
  simp only[Instr.lookup,Sem.run_bind,run_underlying Gz,Result.andThen_ok,Sem.run_pure,au,xr,Fy _ r E];exact fx;cases oa
 obtain ⟨ms,l,own,al,hx,key⟩:=key;rcases aq8 Dn al hx aM with ⟨rfl,E⟩|⟨u,j,m,rfl,E,eb⟩
 cases ok with
 |true=>exact ⟨.tuple #[sM.zero,.bool false],key none _ E (by simp[L3.DB]),.tuple _ _ (.cons _ _ _ _ (.xP L3.zero) (.cons _ _ _ _ (.bool _) .nil))⟩
 |false=>exact ⟨sM.zero,key none _ E (by simp[L3.DB]),.xP L3.zero⟩
 cases ok with
 |true=>exact ⟨.tuple #[m.val,.bool true],key _ _ E (by simp),.tuple _ _ (.cons _ _ _ _ eb (.cons _ _ _ _ (.bool _) .nil))⟩
 |false=>exact ⟨m.val,key _ _ E (by simp),eb⟩
 cases Z;cases Z;cases Z;cases Z
end
section
variable {aq:Nat}{T:Types}{B:Nat}{ι:bF}{aQ:Nat->Prop}{s s':b9}{w w':World}{P:Program}
theorem acC{q:IntKind}{a:Int}{x x':Value}(hx:cE ι x x'):∀ {es:List (Value×Value)} {ms:List MapEntry},lh ι es ms-> ∀ {r:Option Value},
  kr (.int q a) es=some r-> ∀ {k:IntKind} (i:Nat),
   (r=none∧Instr.findNow (.int k) (.int q a) ms i=some none∧ ∀m:MapEntry,m.key=.int q a->m.val=x'->lh ι (mQ (.int q a) x es) (ms++ [m]))∨
   (r≠none∧ ∃j m,ms[j]? =some m∧m.key=.int q a∧Instr.findNow (.int k) (.int q a) ms i=some (some (i+j,m.val))∧
    lh ι (mQ (.int q a) x es) (ms.modify j λe=> { e with key:=.int q a,val:=x' }))
 |[],[],_,r,h,k,i=>by
  simp[kr]at h;subst h;exact .inl ⟨rfl,rfl,λm hk ad=>⟨by rw[hk];exact .int _ _,by rw[ad];exact hx,trivial⟩⟩
 |[],_::_,h,_,_,_,_=>h.elim
 |(_,_)::_,[],h,_,_,_,_=>h.elim
 |(y,v)::es,m::ms,⟨J,U,aj⟩,r,h,k,i=>by
  cases y with
  |int cS b=>
   have hm:=DP J;simp only[kr]at h;split at h;rename_i FT;subst FT;split at h;rename_i lr;subst lr;simp at h;subst h;refine .inr ⟨by simp,0,m,rfl,hm,by simp[Instr.findNow,hm,Instr.sameNow],?_⟩;simp only[mQ,if_true];exact ⟨.int _ _,hx,aj⟩;rename_i lr;have aM:(a == b)=false:=by simpa using lr
   have ts:mQ (.int q a) x ((.int q b,v)::es)=(.int q b,v)::mQ (.int q a) x es:=by simp[mQ,lr]
   rcases acC hx aj h (k:=k) (i+1) with ⟨rfl,E,al⟩|⟨tt,j,jA,aG,hk,E,al⟩
   refine .inl ⟨rfl,by simp[Instr.findNow,hm,Instr.sameNow,aM,E],λjA iT jW=>?_⟩;rw[ts];exact ⟨J,U,al jA iT jW⟩;refine .inr ⟨tt,j+1,jA,by simpa using aG,hk,by simp[Instr.findNow,hm,Instr.sameNow,aM,E];omega,?_⟩;rw[ts];exact ⟨J,U,al⟩;cases h
  |_=>simp[kr]at h
theorem Sq(w:World)(r:Nat)(o:Obj):(w.putObj r o).heap.size=w.heap.size:=by simp[World.putObj]
theorem ap6(cA:iF P T)(h:fZ aq T ι aQ B s w){t:Nat}{m jA k k' v v':Value}(hm:cE ι m jA)(hk:cE ι k k')(ad:cE ι v v')(ai:∀r,m=.map (some r)->aQ r)
  (Z:qS T t s m k v=some s'):∃w',(Instr.mapUpdate t jA k' v').run P w=.ok () w'∧dr aq T B ι aQ s w ι s' w':=by
 unfold qS at Z;split at Z
 ·rename_i lU Bb _ _ _ aO;split at Z
  ·rename_i rI _ _ _ b q a amx;have Gz:=(cA t _ aO).map rfl;have Dn:=(cA lU _ amx).int rfl;split at Z
   ·rename_i es Y;split at Z
    ·rename_i r aM;simp at Z;subst Z;have fS:=DP hk;subst fS;cases hm with
     |map _ i hi=>
      have aE:=h.obj b _ i (ai b rfl) Y hi;obtain ⟨ms,clock,uQ,l,al,hx⟩:=aE.there;have hx:l=ms.toList:=hx.resolve_right λh=>by cases h.1
      subst hx;have xr:∀e d,(Instr.checkKey e (d+1) lU (.int q a)).run P w=.ok () w:=λe d=>by simp[Instr.checkKey,run_underlying Dn]
      have xr:=λe=>xr e 9999;have Fy:∀r,Instr.findNow (.int rI) (.int q a) ms.toList 0=some r->(Instr.findKey lU (.int q a) ms.toList).run P w=.ok r w:=λr E=>by
       simp[Instr.findKey,run_underlying Dn,E]
      have au:(getObj i.r).run P w=.ok (.map ms clock) w:=by simp[getObj,Sem.run,uQ]
      have nd:∀o,(setObj i.r o).run P w=.ok () (w.putObj i.r o):=λo=>by simp[setObj,Sem.run,uQ,World.putObj]
      have b6:i.r<w.heap.size:=(o9.1 uQ).1;have fin:∀(og:Array MapEntry) (c:Nat),lh ι (mQ (.int q a) v es) og.toList->
        dr aq T B ι aQ s w ι { s with h:=s.h.set b (.map (mQ (.int q a) v es) true),ag:=min s.ag b } (w.putObj i.r (.map og c)):=λog c uT=>
       dr.write h (ai b rfl) Y hi rfl (.inl rfl) (Sq _ _ _) (λr E=>World.putObj_heap_other E)
        ⟨⟨og,c,World.putObj_heap_same b6,_,uT,.inl rfl⟩,aE.nT,aE.tp⟩
      rcases acC ad al aM (k:=rI) 0 with ⟨rfl,E,FR⟩|⟨tt,j,m,aG,CO,E,FR⟩
      refine ⟨_,?_,fin (ms.push { key:=.int q a,val:=v',born:=clock }) (clock+1) (by simpa using FR _ rfl rfl)⟩;simp only[Instr.mapUpdate,Sem.run_bind,run_underlying Gz,Result.andThen_ok,au,xr,Fy _ E,nd];have nM:ms[j]? =some m:=by simpa using aG
      have Qy:(Instr.keyThatStays (((ms[0+j]?).map (·.key)).getD (.int q a)) (.int q a)).run P w=.ok (.int q a) w:=by
       rw[gD,nM];have anc:∀d,Instr.sameBits d (.int q a) (.int q a)=true:=λd=>by cases d<;>simp[Instr.sameBits]
       simp[Instr.keyThatStays,CO,anc]
      refine ⟨_,?_,fin (ms.modify (0+j) λe=> { e with key:=.int q a,val:=v' }) clock (by rw[gD,Array.toList_modify];exact FR)⟩;simp only[Instr.mapUpdate,Sem.run_bind,run_underlying Gz,Result.andThen_ok,au,xr,Fy _ E,nd,Qy]
    cases Z
   cases Z
  cases Z
 cases Z
theorem ap1(h:fZ aq T ι aQ B s w)(t:Nat):∃bI v' w',(Instr.makeMap t none).run P w=.ok v' w'∧cE bI (.map (some s.n)) v'∧dr aq T B ι aQ s w bI (newObj s (.map [] true)) w':=by
 refine ⟨ι.add s.n ⟨w.heap.size,0,0⟩,.map (some w.heap.size),w.alloc (.map #[] 0),by simp[Instr.makeMap],.map s.n _ (bF.add_same _ _ _),?_⟩;refine dr.new h _ (.map #[] 0) 0 rfl ⟨⟨#[],0,?_,[],trivial,.inl rfl⟩,λ_=>h.base,λaM=>by simp at aM⟩;show (w.heap.push (.map #[] 0))[w.heap.size]? =_;simp
theorem Yp(off:Nat):∀(l:List Value) (k:Nat) (cells:Array Value),off+k+l.length<=cells.size->
  ((l.zipIdx k).foldl (λcs x=>cs.setIfInBounds (off+x.2) x.1) cells).toList=cells.toList.take (off+k)++(l++cells.toList.drop (off+k+l.length))
 |[],k,cells,h=>by simp
 |v::r,k,cells,h=>by
  simp only[List.zipIdx_cons,DX];simp only[qW]at h;rw[Yp off r (k+1) _ (by simp;omega)];have hlen:off+k<cells.toList.length:=by simp;omega
  have aC:(cells.setIfInBounds (off+k) v).toList=cells.toList.set (off+k) v:=by simp
  rw[aC,show off+(k+1)=off+k+1 by omega,Bv D,List.take_set,List.set_eq_take_append_cons_drop];simp;rw[if_pos D];simp;rw[Hi,show min (off+k) (off+k+1)=off+k by omega];have:List.drop (off+k+1) (List.take (off+k+1) cells.toList)=[]:=by simp
  simp;rw[show off+k+1+r.length=off+k+(r.length+1) by omega]
def ue(ι:bF):List (Nat×Value)->List (Nat×Value)->Prop
 |[],[]=>True
 |(i,v)::l,(j,v')::l'=>i=j∧cE ι v v'∧ue ι l l'
 |_,_=>False
theorem Ml{place place':Nat->Option (Nat×Nat)}(gF:∀i x,place i=some x->place' i=some x):∀ {parts acs:List (Nat×Value)} {cs r:List Value} {cells:Array Value},
  ue ι parts acs->dJ ι cs cells.toList->mf place cs parts=some r-> ∃r':Array Value,Instr.fill place' cells acs=some r'∧dJ ι r r'.toList
 |[],[],cs,r,cells,_,aa,h=>by
  simp[mf]at h;subst h;exact ⟨cells,rfl,aa⟩
 |[],_::_,_,_,_,h,_,_=>h.elim
 |(_,_)::_,[],_,_,_,h,_,_=>h.elim
 |(i,v)::ps,(j,v')::qg,cs,r,cells,⟨rz,ad,oW⟩,aa,h=>by
  subst rz;unfold mf at h;cases al:place i with
  |none=>simp[al]at h
  |some x=>
   obtain ⟨off,size⟩:=x;simp only[al]at h;split at h;rename_i qC;rw[dU,eu]at qC;obtain ⟨J,U⟩:=qC;have J:=kj J;have ig:=ad.eJ.length;have mj:=aa.length;simp only[zt]at ig mj;have Qp:=Yp off v'.cells.toList 0 cells (by rw[zt];omega);have ae:dJ ι (gp cs off (eJ v)) (v'.cells.toList.zipIdx.foldl (λcs x=>cs.setIfInBounds (off+x.2) x.1) cells).toList:=by
    rw[Qp];have:=aa.gp ad.eJ off;unfold gp at this ⊢;simpa using this
   obtain ⟨r',oX,eb⟩:=Ml gF oW ae h;refine ⟨r',?_,eb⟩;have cy: ¬(v'.cells.size≠size∨off+v'.cells.size>cells.size):=D;have cm:(decide (v'.cells.size≠size) || decide (off+v'.cells.size>cells.size))=false:=by simp;omega
   unfold Instr.fill;rw[gF i _ al];simp only[cm,vj,if_false];rw[<-oX];congr 1;rw[<-Array.foldl_toList];simp;cases h
end
section
variable {aq:Nat}{T:Types}{B:Nat}{ι:bF}{aQ:Nat->Prop}{s s':b9}{w w':World}{P:Program}
theorem ac9(w:World):∀(ew:List Field),(∀f∈ew,(P.info? f.type).isSome=true)-> ∃places:List (Nat×Nat),(ew.mapM λf=>Prod.mk f.offset<$>sizeOf f.type).run P w=.ok places w∧
  ∀(i:Nat) (f:Field),ew[i]? =some f-> ∃n,places[i]? =some (f.offset,n)∧ ∀t,P.info? f.type=some t->n=t.size
 |[],_=>⟨[],by simp,by simp⟩
 |f::ew,h=>by
  obtain ⟨ps,J,U⟩:=ac9 w ew (λg au=>h g (by simp[au]));obtain ⟨t,aO⟩:=Option.isSome_iff_exists.1 (h f (by simp));have ae:(sizeOf f.type).run P w=.ok t.size w:=by simp[sizeOf,typeInfo,aO]
  refine ⟨(f.offset,t.size)::ps,by simp[List.mapM_cons,ae,J],λi g au=>?_⟩;cases i with
  |zero=>
   simp at au;subst au;exact ⟨t.size,rfl,λu hu=>by rw[aO]at hu;cases hu;rfl⟩
  |succ i=>simpa using U i g (by simpa using au)
theorem apQ(cA:iF P T){t:Nat}{ps:List (Nat×Value)}{qg:Array (Nat×Value)}(al:ue ι ps qg.toList){v:Value}(Z:s3 T t ps=some v)(w:World):
  ∃v',(Instr.build t qg).run P w=.ok v' w∧cE ι v v':=by
 unfold s3 at Z;split at Z;rename_i ew _ _ z aO;have ok:=cA t _ aO;obtain ⟨fields,hu,yN⟩:=ok.struct rfl;split at Z;rename_i l aM;simp at Z;subst Z;obtain ⟨places,gF,amR⟩:=ac9 (P:=P) w fields.toList (λf aM=>by
  have:=ok.parts _ rfl (f.type,f.offset) (by rw[yN];exact qn.2 ⟨f,aM,rfl⟩);exact this)
 have aY:=(cE.xP (ι:=ι) ok.zero).eJ;obtain ⟨r,E,eb⟩:=Ml (place':=(places.toArray[·]?)) (λi x hx=>by
  split at hx;rename_i jU off rest ai;split at hx;rename_i ti ss;simp at hx;subst hx;obtain ⟨F,eO,rfl,rfl⟩:=S6 yN ai;obtain ⟨n,a5,uR⟩:=amR i F (by simpa using eO);obtain ⟨it,sj,ae,_⟩:=(cA _ _ ss).info;simp[a5,uR it sj,ae];cases hx;cases hx) al aY aM
 refine ⟨.agg r,?_,?_⟩;have amS:(fields.mapM (λf=>Prod.mk f.offset<$>sizeOf f.type)).run P w=.ok places.toArray w:=by
  rw[Array.mapM_eq_mapM_toList];simp[gF]
 have tu:=E;simp at tu;simp[Instr.build,ok.DB,run_underlying hu,amS,tu];have:=cE.agg (ι:=ι) _ _ eb;simpa using this;cases Z;rename_i n e _ _ z aO;have ok:=cA t _ aO;have hu:=ok.array rfl;split at Z;rename_i te dv;have hX:=cA e _ dv;split at Z;rename_i l aM;simp at Z;subst Z;have aY:=(cE.xP (ι:=ι) ok.zero).eJ;obtain ⟨r,E,eb⟩:=Ml (λi x hx=>hx) al aY aM;refine ⟨.agg r,?_,?_⟩;simp[Instr.build,ok.DB,run_underlying hu,hX.run_sizeOf,E];have:=cE.agg (ι:=ι) _ _ eb;simpa using this;cases Z;cases Z;cases Z
theorem ac1(z:List Value):∀n,(cC n z).length=n*z.length
 |0=>by simp[cC]
 |n+1=>by simp[cC,ac1 z n,wN,DY]
theorem ac0(z:List Value):∀n j,j<n*z.length->(cC n z)[j]? =z[j % z.length]?
 |0,j,h=>by simp at h
 |n+1,j,h=>by
  simp only[cC];by_cases aG:j<z.length;rw[vi aG,Nat.mod_eq_of_lt aG];have Ag:z.length<=j:=D;rw[DW Ag,ac0 z n _ (by rw[wN]at h;omega)];congr 1;exact (Nat.mod_eq_sub_mod Ag).symm
theorem RV(z:Value)(n:Nat):(madeCells z.cells (n*z.cells.size)).toList=cC n z.cells.toList:=by
 apply List.ext_getElem?;intro j;by_cases aG:j<n*z.cells.size;rw[ac0 _ _ _ (by simpa using aG)];have yW:0<z.cells.size:=by
  rcases Nat.eq_zero_or_pos z.cells.size with e|e
  rw[e]at aG;simp at aG;exact e
 have b6:j % z.cells.size<z.cells.size:=x5 _ yW;simp[madeCells,aG,b6];rw[Bw (by simp[madeCells];omega),Bw (by rw[ac1];simp;omega)]
theorem Ba(v:Value):eJ v=v.cells.toList:=by cases v<;>rfl
theorem WQ{p:Value->Bool}{z:List Value}(h:z.all p=true):∀n,(cC n z).all p=true
 |0=>rfl
 |n+1=>by simp only[cC,Bx,h,WQ h n,Bool.and_self]
theorem aqn{v:Value}(h:tN v=true):(eJ v).all plain=true:=by
 unfold tN at h;split at h;exact h;rename_i a5;cases v<;>first|(exfalso;exact a5 _ rfl)|(simpa [eJ] using h)
theorem dJ.TJ{v:Value}(h:tN v=true)(n:Nat):dJ ι (cC n (eJ v)) (cC n (eJ v)):=.Dm (WQ (aqn h) n)
theorem dJ.toArray_eq{l:List Value}{a:Array Value}(h:a.toList=l):a=(l++ []).toArray:=by
 apply Array.ext';simp[h]
theorem ap2(cA:iF P T)(h:fZ aq T ι aQ B s w){t:Nat}{l l' c bj:Value}(Z:cE ι l l')(aa:cE ι c bj){v:Value}(E:eV T t l c s=some (v,s')):
  ∃bI v' w',(Instr.makeSlice t l' bj).run P w=.ok v' w'∧cE bI v v'∧dr aq T B ι aQ s w bI s' w':=by
 unfold eV at E;split at E;rename_i e _ _ _ n m aO;split at E;rename_i te dv;split at E;rename_i qC;obtain ⟨J,U,aj,aH⟩:=qC;simp at E;obtain ⟨rfl,rfl⟩:=E;cases Z;cases aa;have hX:=cA e _ dv;obtain ⟨i,hi,ae,rq,aY⟩:=hX.info;have hP:=run_make (P:=P) w t e i te.zero ((cA t _ aO).slice rfl) hi aY .i64 .i64 n m J U (by rw[rq];omega) D;have iN:i.size=te.zero.cells.size:=by rw[ae,<-hX.MV,Ba];simp
 have Fu:(madeCells te.zero.cells (m.toNat*i.size)).toList=cC m.toNat (eJ te.zero):=by rw[iN,RV,Ba]
 have au:=dr.cells (s:=s) (e:=e) (more:=[]) h false 0 (w':=w.alloc (.cells (madeCells te.zero.cells (m.toNat*i.size)) e)) (by
  show w.heap.push _=_;rw[dJ.toArray_eq Fu]) (dJ.TJ (ι:=ι) hX.zero m.toNat) (by simp) (λ_=>rfl)
 exact ⟨_,_,_,hP,.slice s.n 0 _ _ _ _ (bF.add_same _ _ _) (cg _) D,au⟩;cases E;cases E;cases E
theorem apR(cA:iF P T)(h:fZ aq T ι aQ B s w){t len:Nat}{ps:List (Nat×Value)}{qg:Array (Nat×Value)}(al:ue ι ps qg.toList){v:Value}(E:qy T t len ps s=some (v,s')):
  ∃bI v' w',(Instr.buildSlice t len qg).run P w=.ok v' w'∧cE bI v v'∧dr aq T B ι aQ s w bI s' w':=by
 unfold qy at E;split at E;rename_i e _ _ _ aO;split at E;rename_i te dv;split at E;rename_i hle;rw[eu]at hle;split at E;rename_i l aM;simp at E;obtain ⟨rfl,rfl⟩:=E;have hX:=cA e _ dv;have hu:=(cA t _ aO).slice rfl;have iN:te.size=te.zero.cells.size:=by rw[<-hX.MV,Ba];simp
 have Fu:(madeCells te.zero.cells (len*te.size)).toList=cC len (eJ te.zero):=by rw[iN,RV,Ba]
 obtain ⟨r,E,eb⟩:=Ml (ι:=ι) (cells:=madeCells te.zero.cells (len*te.size)) (λi x hx=>hx) al (by rw[Fu];exact dJ.TJ hX.zero len) aM;have au:=dr.cells (s:=s) (e:=e) (more:=[]) h false 0 (w':=w.alloc (.cells r e)) (by
  show w.heap.push _=_;simp) eb (by simp) (λ_=>rfl)
 refine ⟨_,.slice (some ⟨w.heap.size,0,none⟩) len len,_,?_,.slice s.n 0 _ _ _ _ (bF.add_same _ _ _) (cg _) D,au⟩;have jK: ¬(2 ^ 24<len*te.size):=D;by_cases aR:len*te.size=0;have hm:madeCells te.zero.cells (len*te.size)= #[]:=by rw[aR];simp[madeCells]
 rw[hm]at E;have ph:Array.range 0= #[]:=rfl;simp[Instr.buildSlice,run_underlying hu,hX.run_sizeOf,aR,ph,E,newRow];unfold madeCells at E;simp at jK;simp[Instr.buildSlice,run_underlying hu,hX.run_sizeOf,hX.DB,aR,jK,E,newRow];cases E;cases E;cases E;cases E
end
section
variable {aq:Nat}{T:Types}{B:Nat}{ι:bF}{aQ:Nat->Prop}{s s':b9}{w w':World}{P:Program}
theorem dr.kill(h:fZ aq T ι aQ B s w)(b:Nat):dr aq T B ι aQ s w ι { s with h:=s.h.set b .dead,ag:=min s.ag b } w:=by
 have cases:∀c q j,(aQ c∨s.n<=c)->(s.h.set b .dead).get c=some q->ι c=some j->aQ c∧(q=.dead∨s.h.get c=some q):=by
  intro c q j g1 aa aG;have:=h.lt c j aG;refine ⟨g1.resolve_right D,?_⟩;by_cases e:c=b;subst e;rw[aJ.jV]at aa;exact .inl (Option.some.inj aa).symm;rw[aJ.hj _ _ e]at aa;exact .inr aa
 refine ⟨bF.le_refl _,λc j aG=>.inl aG,⟨λc q j g1 aa aG=>?_,λc bj q q' j AA g1 yJ aa lM a7 kK aG nM e=>?_,λc j aG=>h.lt c j aG,h.base⟩,cg _,by simp;omega,λc aa hm=>?_,λr E jK=>rfl,λc j q g1 aG aa a7=>?_,cg _,rfl,rfl⟩;rcases cases c q j g1 aa aG with ⟨ai,rfl|aa⟩;trivial;exact h.obj c q j ai aa aG;rcases cases c q j g1 aa aG with ⟨ai,rfl|uZ⟩;simp[live]at a7;rcases cases bj q' AA yJ lM nM with ⟨eP,rfl|AE⟩;simp[live]at kK;exact h.inj c bj q q' j AA ai eP uZ AE a7 kK aG nM e;have:c≠b:=by intro e;subst e;simp at hm;omega
 simp only[];rw[aJ.hj _ _ this];rcases cases c q j g1 aa aG with ⟨ai,rfl|uZ⟩;simp[live]at a7;exact .inr ⟨c,j,q,ai,aG,uZ,a7,rfl,.inl rfl⟩
theorem XC(w:World)(a:Addr):w.drew.cell? a=w.cell? a:=rfl
theorem ab1(s:ByteArray):ofBytes s.data.toList=byteCells s:=rfl
theorem dJ.bytes(l:List UInt8):dJ ι (ofBytes l) (ofBytes l):=by
 unfold ofBytes
 induction l with
 |nil=>exact .nil
 |cons b l a3=>exact .cons _ _ _ _ (.int _ _) a3
theorem dJ.apL{l l':List Value}(h:dJ ι l l')(ae:l.all scalar=true):∀u∈l',u.oneCell'=true:=λv ad=>by
 obtain ⟨j,aG⟩:=sO ad;have nM:j<l.length:=by rw[h.length];exact (nX.1 aG).1
 obtain ⟨v',fx,eb⟩:=h.get (mA nM);rw[aG]at fx;cases fx;exact eb.scalar (fj.1 ae _ (tX nM))
theorem aq7(h:fZ aq T ι aQ B s w){te:cb}{y dY:Value}(iJ:∀b i,b∈g6 y->ι b=some i->aQ b)(aI:cE ι y dY){n:Nat}{l:List Value}(hi:items te s y=some (n,l)){u:Nat}
  (hu:(∃aZ,P.underlying u=some (.slice aZ))∨P.underlying u=some .string) (jx:∀st,y=.string st->P.underlying u=some .string) (sr:∀a b c,y=.slice a b c-> ∃aZ,P.underlying u=some (.slice aZ)):
  l.length=n*te.size∧ ∃news,dJ ι l news∧(l.all scalar=true->Src P te.size u dY n news w):=by
 unfold items at hi;split at hi;simp at hi;obtain ⟨rfl,rfl⟩:=hi;obtain ⟨aZ,he⟩:=sr _ _ _ rfl;cases aI;exact ⟨by simp,[],.nil,λ_=>Src.ofNil w he _⟩;rename_i a jl c;split at hi;rename_i l' E;simp at hi;obtain ⟨rfl,rfl⟩:=hi;obtain ⟨aZ,he⟩:=sr _ _ _ rfl;cases aI with
 |slice b o l c bj i fw J U=>
  obtain ⟨hlen,news,eb,aa⟩:=h.read E (iJ _ _ (by simp[g6]) fw) fw;exact ⟨hlen,news,eb,λae=>Src.ofSlice w he _ _ _ news (by rw[<-eb.length];exact hlen) (λj u hu=>by rw[vy];exact aa j u hu) (eb.apL ae)⟩
 |lW a a8 wa vV=>
  have:l'=[]:=by
   unfold o2 at E;split at E;split at E;simp at E;exact E;cases E;cases E
  subst this;exact ⟨by simp,[],.nil,λ_=>Src.ofSlice w he a8 0 0 [] (by simp) (by simp) (by simp)⟩
 cases hi;rename_i st;split at hi;rename_i J;have J:=kj J;simp at hi;obtain ⟨rfl,rfl⟩:=hi;cases aI;refine ⟨by rw[J,ab1,byteCells_length,ox],byteCells st,.bytes _,λ_=>?_⟩;rw[J];exact Src.ofString w (jx _ rfl) st;cases hi;cases hi
theorem Fj(cA:iF P T)(h:fZ aq T ι aQ B s w){t u ty e:Nat}{te:cb}(aO:P.underlying t=some (.slice e))(dv:T.get e=some te){base:Option Addr}{len cap' n:Nat}{olds tK l news:List Value}{dY:Value}
  (hold:(Builtin.firstCells te.size len (.slice base len cap')).run P w.drew=.ok tK.toArray w.drew) (aE:dJ ι olds tK) (Z:dJ ι l news) (ae:Src P te.size u dY n news w)
  (au:cap'<len+n) (xw:(len+n)*te.bytes<=140737488355328) (yW:0<te.bytes):
  ∃bI v' w',(Builtin.append_ #[t,u] ty #[.slice base len cap',dY]).run P w=.ok v' w'∧cE bI (.slice (some ⟨s.n,0,none⟩) (len+n) (len+n)) v'∧
   dr aq T B ι aQ s w bI (newObj s (.cells (olds++l) e true true)) w':=by
 have hX:=cA e te dv;obtain ⟨i,hi,iN,rq,aY⟩:=hX.info;have akW:((len+n:Nat):Int)<=9223372036854775807:=by
  have:len+n<=(len+n)*te.bytes:=DZ _ yW;omega
 have hP:=run_append_grow_src (P:=P) w t u ty e i te.zero aO hi aY base len cap' tK (by rw[iN];exact hold) dY n news (by rw[iN];exact ae) au akW (growslice_fits au (by rw[rq];exact xw));have y7:te.size=te.zero.cells.size:=by rw[<-hX.MV,Ba];simp
 have m8:=grownCap_ge w (len+n) cap' e;have ie:=dr.cells (s:=s) (e:=e) (cs:=olds++l) (cs':=tK++news) (more:=(Builtin.zeroCells te.zero.cells (grownCap w (len+n) cap' e - (len+n))).toList) h true (grownCap w (len+n) cap' e - (len+n))
  (w':=w.drew.alloc (.cells ((tK++news).toArray++Builtin.zeroCells te.zero.cells (grownCap w (len+n) cap' e - (len+n))) e)) (by
   show w.heap.push _=_;congr 2;apply Array.ext';simp) (aE.append Z) (by rw[zt,size_zeroCells,MD dv,y7];exact cg _) (λaM=>by simp at aM)
 exact ⟨_,_,_,hP,.slice s.n 0 _ _ _ _ (bF.add_same _ _ _) m8 (by simp;omega),ie⟩
theorem ap7(cA:iF P T)(h:fZ aq T ι aQ B s w){t u ty e:Nat}{te:cb}{k:IntKind}(aO:P.underlying t=some (.slice e))(dv:T.get e=some te)(hu:P.underlying u=some (.int k))
  {x x' y dY:Value} (hx:cE ι x x') (aI:cE ι y dY) {v:Value} (E:qU te e s x y=some (v,s')):
  ∃bI v' w',(Builtin.append_ #[t,u] ty #[x',dY]).run P w=.ok v' w'∧cE bI v v'∧dr aq T B ι aQ s w bI s' w':=by
 have hX:=cA e te dv;obtain ⟨i,hi,iN,rq,aY⟩:=hX.info;unfold qU at E;split at E;rename_i n;split at E;rename_i aa;obtain ⟨J,U,aj⟩:=aa;simp only[cU,c4]at E;obtain ⟨rfl,rfl⟩:=E;cases hx;cases aI;obtain ⟨m,rfl⟩:∃m:Nat,n=(m+1:Nat):=⟨n.toNat - 1,D⟩;simp only[dZ]at U ⊢;have hle:m+1<=(m+1)*te.bytes:=DZ _ aj;have hw:IntKind.i64.wrap ((m+1:Nat):Int)=((m+1:Nat):Int):=by
  simp only[IntKind.wrap,IntKind.bits,IntKind.signed];simp;omega
 have y7:te.size=te.zero.cells.size:=by rw[<-hX.MV,Ba];simp
 have m8:=grownCap_ge w (m+1) 0 e;have xw:=growslice_fits (old:=0) (need:=m+1) D U;have Ax:∀q,(Builtin.zeroCells te.zero.cells q).toList=cC q (eJ te.zero):=λq=>by
  rw[Ba,<-RV];rfl
 have jK: ¬(281474976710656<((m+1:Nat):Int)*(te.bytes:Int)):=by
  rw[<-wO];omega
 have hzero:∀q,q*i.size=0->Builtin.zeroCells te.zero.cells q= #[]:=λq a7=>by
  rw[iN,y7]at a7;unfold Builtin.zeroCells;rw[a7];apply Array.ext';simp
 have hP:(Builtin.append_ #[t,u] ty #[.slice none 0 0,.int .i64 ((m+1:Nat):Int)]).run P w=
   .ok (.slice (some ⟨w.heap.size,0,none⟩) (m+1) (grownCap w (m+1) 0 e)) (w.drew.alloc (.cells (Builtin.zeroCells te.zero.cells (m+1)++Builtin.zeroCells te.zero.cells (grownCap w (m+1) 0 e - (m+1))) e)):=by
  generalize m+1=q at*;have ey: ¬(q=0):=D;have Z9: ¬(281474976710656<(q:Int)*(i.bytes:Int)):=by rw[rq];exact jK
  have aaa: ¬(9223372036854775807<(q:Int)):=D;have aab: ¬(281474976710656<Builtin.nextslicecap q 0*i.bytes):=by rw[rq];omega
  have vY: ¬((q:Int)<0):=D;by_cases aR:q*i.size=0;have ph:=hzero q aR;simp[Builtin.append_,run_underlying aO,run_underlying hu,sizeOf,typeInfo,zeroValue,hi,aY,hw,Z9,asInt,asIntOf,ey,aaa,aab,vY,aR,ph,Question.forced,run_firstCells_none,newRow,grownCap];simp[Builtin.append_,run_underlying aO,run_underlying hu,sizeOf,typeInfo,zeroValue,hi,aY,hw,Z9,asInt,asIntOf,ey,aaa,aab,vY,aR,Question.forced,run_firstCells_none,newRow,grownCap]
 have ie:=dr.cells (s:=s) (e:=e) (cs:=cC (m+1) (eJ te.zero)) (cs':=cC (m+1) (eJ te.zero)) (more:=(Builtin.zeroCells te.zero.cells (grownCap w (m+1) 0 e - (m+1))).toList) h true (grownCap w (m+1) 0 e - (m+1))
  (w':=w.drew.alloc (.cells (Builtin.zeroCells te.zero.cells (m+1)++Builtin.zeroCells te.zero.cells (grownCap w (m+1) 0 e - (m+1))) e)) (by
   show w.heap.push _=_;congr 2;apply Array.ext';simp[Ax]) (dJ.TJ hX.zero _) (by rw[zt,size_zeroCells,MD dv,y7];exact cg _) (λaM=>by simp at aM)
 exact ⟨_,_,_,hP,.slice s.n 0 _ _ _ _ (bF.add_same _ _ _) m8 (by simp;omega),ie⟩;cases E;cases E
theorem ab8(cA:iF P T)(h:fZ aq T ι aQ B s w){t u ty e:Nat}{te:cb}(aO:P.underlying t=some (.slice e))(dv:T.get e=some te)
  {x x' y dY:Value} (yF:∀b i,b∈g6 x->ι b=some i->aQ b) (PK:∀b i,b∈g6 y->ι b=some i->aQ b) (hx:cE ι x x') (aI:cE ι y dY) (hu:(∃aZ,P.underlying u=some (.slice aZ))∨P.underlying u=some .string) (jx:∀st,y=.string st->P.underlying u=some .string) (sr:∀a b c,y=.slice a b c-> ∃aZ,P.underlying u=some (.slice aZ)) {v:Value} (E:ko te e s x y=some (v,s')):
  ∃bI v' w',(Builtin.append_ #[t,u] ty #[x',dY]).run P w=.ok v' w'∧cE bI v v'∧dr aq T B ι aQ s w bI s' w':=by
 have hX:=cA e te dv;obtain ⟨i,hi,iN,rq,aY⟩:=hX.info;unfold ko at E;split at E
 ·cases E
 ·rename_i n l sj;obtain ⟨hlen,news,eb,Li⟩:=aq7 (P:=P) h PK aI sj hu jx sr;have Z8:=eb.length;have nothing:n=0->Src P i.size u dY 0 [] w:=λph=>by
   subst ph;have xx:l=[]:=by simpa using hlen
   subst xx;cases eb;rw[iN];exact Li rfl
  split at E
  ·
   cases hx;split at E;simp at E;obtain ⟨rfl,rfl⟩:=E;exact ⟨ι,_,w,run_append_nothing w t u ty e i aO hi none 0 0 (cg _) dY (nothing rfl),.xV _ _,dr.refl h rfl⟩;rename_i n;split at E;rename_i aa;simp only[dU,eu,gy]at aa;obtain ⟨⟨⟨J,U⟩,aj⟩,aH⟩:=aa;simp at E;obtain ⟨rfl,rfl⟩:=E;have:=Fj (P:=P) (ty:=ty) (olds:=[]) (tK:=[]) cA h aO dv (base:=none) (len:=0) (cap':=0) (run_firstCells_none w.drew te.size 0 0 0) .nil eb (Li aH) D (by simpa using J) U;simpa using this;cases E
  ·rename_i a len cap;split at E
   ·cases E
   ·rename_i hle;rw[eu]at hle;split at E
    ·simp at E;obtain ⟨rfl,rfl⟩:=E;cases hx with
     |slice b o l' c bj j aG J U=>
      exact ⟨ι,_,w,run_append_nothing w t u ty e i aO hi _ _ _ D dY (nothing rfl),.slice _ _ _ _ _ _ aG J U,dr.refl h rfl⟩
     |lW a a8 wa vV=>
      exact ⟨ι,_,w,run_append_nothing w t u ty e i aO hi _ _ _ D dY (nothing rfl),.lW a a8 wa vV,dr.refl h rfl⟩
    ·rename_i n;split at E
     ·rename_i FW;rw[eu]at FW;split at E;rename_i bc hw;simp at E;obtain ⟨rfl,rfl⟩:=E;cases hx with
      |lW a a8 wa vV=>omega
      |slice b o l' c bj j aG J U=>
       have jJ:l.all scalar=true:=by
        unfold wI at hw;split at hw;split at hw;rename_i aa;rw[dU]at aa;exact aa.2;cases hw;cases hw
       obtain ⟨dj,dL,eH,e0⟩:=h.store hw (yF _ _ (by simp[g6]) aG) aG eb;have aC:j.o+(o+len*te.size)=j.o+o+len*i.size:=by rw[iN];omega
       rw[aC]at dj dL e0;have hP:=run_append_room_src (P:=P) w t u ty e i aO hi j.r (j.o+o) len bj dY (n+1) news (by rw[iN];exact Li jJ) D dj dL;exact ⟨ι,_,_,hP,.slice _ _ _ _ _ _ aG J U,e0⟩
      cases E
     ·rename_i FW;have FW: ¬len+(n+1)<=cap:=by
       intro aa;rw[<-eu]at aa;rw[aa]at FW;cases FW
      split at E
      ·cases E
      ·rename_i aa;simp only[dU,eu,gy]at aa;obtain ⟨⟨⟨J,U⟩,aj⟩,aH⟩:=aa;have ae:=Li aH;split at E
       ·rename_i cs aZ own Y;split at E;rename_i Zq;have Zr:=Zq;rw[eu]at Zq;simp at E;obtain ⟨rfl,rfl⟩:=E;cases hx with
        |slice b o l' c bj j aG dj dL=>
         have kA:=h.obj b _ j (yF _ _ (by simp[g6]) aG) Y aG;have lv:=kA.tight rfl;have Q0:o2 s b o (len*te.size)=some ((cs.drop o).take (len*te.size)):=by
          simp only[o2,Y];simp only[]at Zr;rw[Zr]
         obtain ⟨QB,tK,FV,tj⟩:=h.read Q0 (yF _ _ (by simp[g6]) aG) aG;exact Fj (P:=P) (ty:=ty) cA h aO dv (run_firstCells_some w.drew te.size len _ len bj tK (by rw[<-FV.length];exact QB) (λk v hk=>by rw[vy,XC];exact tj k v hk))
          FV eb ae (by rw[lv]at dL;omega) J U
        |lW a a8 wa vV=>
         have:=Fj (P:=P) (ty:=ty) (olds:=[]) (tK:=[]) cA h aO dv (base:=some a8) (len:=0) (cap':=0) (run_firstCells_some w.drew te.size 0 a8 0 0 [] (by simp) (by simp)) .nil eb ae D J U;simpa using this
        cases E
       ·rename_i cs aZ Y;split at E
        ·rename_i aa;simp only[dU]at aa;obtain ⟨⟨⟨aB,aT⟩,bp⟩,eh⟩:=aa;have aB:=kj aB;have aT:=kj aT;have bp:=kj bp;have eh:=kj eh;simp at E;obtain ⟨rfl,rfl⟩:=E;subst aB;have aa9:=λb=>dr.kill h b;cases hx with
         |lW a a8 wa vV=>
          have iK:cs=[]:=by simpa using bp.symm
          subst iK;have hk:=aa9 a.block;have hU:Src P te.size u dY (n+1) news w:=ae;obtain ⟨bI,v',w',cL,cS,ds⟩:=Fj (P:=P) (ty:=ty) (olds:=[]) (tK:=[]) cA hk.iC aO dv (base:=some a8) (len:=0) (cap':=0) (run_firstCells_some w.drew te.size 0 a8 0 0 [] (by simp) (by simp)) .nil eb hU D J U;exact ⟨bI,v',w',cL,by simpa using cS,hk.trans (by simpa using ds)⟩
         |slice b o l' c bj j aG dj dL=>
          simp only[]at Y aT;subst aT eh;have kA:=h.obj b _ j (yF _ _ (by simp[g6]) aG) Y aG;have Q0:o2 s b 0 (cap*te.size)=some cs:=by
           have:Nat.ble (0+cap*te.size) cs.length=true:=by rw[eu];omega
           simp only[o2,Y,this];rw[bp];simp
          obtain ⟨QB,tK,FV,tj⟩:=h.read Q0 (yF _ _ (by simp[g6]) aG) aG;by_cases xw:cap+(n+1)<=bj
          ·have iK:cs.length=cap*te.size:=bp.symm;have Lh:zj T aZ=te.size:=MD dv;have nb:l.length=(n+1)*te.size:=hlen;have hbound:(n+1)*te.size+(bj - (cap+(n+1)))*te.size<=j.x*te.size:=by
            rw[<-Nat.add_mul];exact x6 _ D
           have hB:∀k,k<news.length->(w.cell? ⟨j.r,j.o+0+cap*i.size+k,none⟩).isSome=true:=λk hk=>by
            have:=kA.room (cap*te.size+k) (by rw[Lh,iK];omega);rw[iN,zs,pL];exact this
           have j0:∀k,k<news.length->w.frozen? ⟨j.r,j.o+0+cap*i.size+k,none⟩=false:=λk hk=>by
            have:=(kA.nT rfl).2 (cap*te.size+k) (by rw[Lh,iK];omega);rw[iN,zs,pL];exact this
           have hP:=run_append_room_src (P:=P) w t u ty aZ i aO hi j.r (j.o+0) cap bj dY (n+1) news (by rw[iN];exact ae) xw hB j0;have alX:∀k,(k<cap*te.size∨cap*te.size+news.length<=k)->(w.setCells j.r (j.o+0+cap*i.size) news).cell? ⟨j.r,j.o+k,none⟩=w.cell? ⟨j.r,j.o+k,none⟩:=λk hk=>
            World.cell?_setCells_out _ _ _ _ _ λ_ _=>by simp[iN];omega
           have tn:∀k (hk:k<news.length),(w.setCells j.r (j.o+0+cap*i.size) news).cell? ⟨j.r,j.o+0+cap*i.size+k,none⟩=some news[k]:=λk hk=>World.cell?_setCells_in _ _ _ _ hB k hk;have hle:=bF.Dd h.lt ⟨j.r,j.o,bj - (cap+(n+1))⟩;have ie:=dr.grow (fv:=SP _ _ _ _) (w':=w.setCells j.r (j.o+0+cap*i.size) news) (o':=.cells (cs++l) aZ true true) h (bj - (cap+(n+1))) (yF _ _ (by simp[g6]) aG) Y aG rfl (GQ _ _ _ _) (λr E=>SQ _ _ _ _ _ E)
            ⟨by
             rw[GQ];exact kA.there,λk v hk=>by
             by_cases cy:k<cs.length;rw[vi cy]at hk;obtain ⟨v',cL,cS⟩:=kA.ot k v hk;exact ⟨v',by rw[alX k (.inl D)];exact cL,cS.mono hle⟩;rw[DW D]at hk;obtain ⟨v',cL,cS⟩:=eb.get hk;have fS:k - cs.length<news.length:=(nX.1 cL).1;refine ⟨v',?_,cS.mono hle⟩;have:=tn (k - cs.length) fS;rw[show j.o+0+cap*i.size+(k - cs.length)=j.o+k by rw[iN];omega]at this;show (w.setCells j.r (j.o+0+cap*i.size) news).cell? ⟨j.r,j.o+k,none⟩=_;rw[this];rw[mA fS]at cL;exact cL,
             λk hk=>by
              simp only[hZ]at hk;exact World.isSome_setCells _ _ _ _ _ (kA.room k (by rw[Lh]at hk ⊢;omega)),
             λaM=>by simp at aM,
             λ_=>⟨(kA.nT rfl).1,λk hk=>by
              simp only[hZ]at hk;rw[World.frozen?_setCells];exact (kA.nT rfl).2 k (by rw[Lh]at hk ⊢;omega)⟩,
             λaM=>by simp at aM⟩
           refine ⟨_,_,_,hP,?_,ie⟩;have:=cE.slice (ι:=ι.add s.n ⟨j.r,j.o,bj - (cap+(n+1))⟩) s.n 0 (cap+(n+1)) (cap+(n+1)) bj _ (bF.add_same _ _ _) xw (by simp;omega);exact this
          have hk:=aa9 b;obtain ⟨bI,v',w',cL,cS,ds⟩:=Fj (P:=P) (ty:=ty) cA hk.iC aO dv (base:=some ⟨j.r,j.o+0,none⟩) (len:=cap) (cap':=bj) (run_firstCells_some w.drew te.size cap _ cap bj tK (by rw[<-FV.length];exact QB) (λk v hk=>by rw[vy,XC];exact tj k v hk))
           FV eb ae D J U
          exact ⟨bI,v',w',cL,cS,hk.trans ds⟩
        cases E
       cases E
  cases E
end
section
variable {aq:Nat}{T:Types}{B:Nat}{ι:bF}{aQ:Nat->Prop}{s s':b9}{w w':World}{P:Program}
theorem aq4(h:fZ aq T ι aQ B s w){te:cb}{y dY:Value}(iJ:∀b i,b∈g6 y->ι b=some i->aQ b)(aI:cE ι y dY){n:Nat}{l:List Value}(hi:items te s y=some (n,l)):
  l.length=n*te.size∧(∀w:World,(Builtin.lenOf dY).run P w=.ok n w)∧ ∃news,dJ ι l news∧ ∀k,k<=n->(Builtin.firstCells te.size k dY).run P w=.ok (news.take (k*te.size)).toArray w:=by
 unfold items at hi;split at hi;simp at hi;obtain ⟨rfl,rfl⟩:=hi;cases aI;exact ⟨by simp,λ_=>rfl,[],.nil,λk hk=>by simp[Builtin.firstCells]⟩;rename_i a jl c;split at hi;rename_i l' E;simp at hi;obtain ⟨rfl,rfl⟩:=hi;cases aI with
 |slice b o l c bj i fw J U=>
  obtain ⟨hlen,news,eb,aa⟩:=h.read E (iJ _ _ (by simp[g6]) fw) fw;refine ⟨hlen,λ_=>rfl,news,eb,λk hk=>?_⟩;have fS:k*te.size<=jl*te.size:=x6 _ hk;have Ao:=eb.length;refine run_firstCells_some w te.size k _ jl bj (news.take (k*te.size)) (by simp;omega) λj u hu=>?_;rw[vy];rw[Bs]at hu;split at hu;exact aa j u hu;cases hu
 |lW a a8 wa vV=>
  have:l'=[]:=by
   unfold o2 at E;split at E;split at E;simp at E;exact E;cases E;cases E
  subst this;refine ⟨by simp,λ_=>rfl,[],.nil,λk hk=>?_⟩;have ZV:k=0:=D;subst ZV;simpa using run_firstCells_some (P:=P) w te.size 0 a8 0 0 [] (by simp) (by simp)
 cases hi;rename_i st;split at hi;rename_i J;have J:=kj J;simp at hi;obtain ⟨rfl,rfl⟩:=hi;cases aI;refine ⟨by rw[J,ab1,byteCells_length,ox],λ_=>rfl,byteCells st,.bytes _,λk hk=>?_⟩;simp only[Builtin.firstCells,Sem.run_pure,J,ox];congr 1;apply Array.ext';simp[byteCells,ByteArray.extract,ByteArray.copySlice,List.map_take];try (congr 1;omega)
 cases hi;cases hi
theorem apU(cA:iF P T)(h:fZ aq T ι aQ B s w){t u ty e:Nat}{te:cb}(aO:P.underlying t=some (.slice e))(dv:T.get e=some te)
  {x x' y dY:Value} (yF:∀b i,b∈g6 x->ι b=some i->aQ b) (PK:∀b i,b∈g6 y->ι b=some i->aQ b) (hx:cE ι x x') (aI:cE ι y dY) {v:Value} (E:copyV te s x y=some (v,s')):
  ∃w',(Builtin.copy_ #[t,u] ty #[x',dY]).run P w=.ok v w'∧cE ι v v∧dr aq T B ι aQ s w ι s' w':=by
 have hX:=cA e te dv;have xx:∀(a:Addr),(loadCells a 0).run P w=.ok #[] w:=λa=>by simpa using run_loadCells_list (P:=P) w a [] (by simp)
 unfold copyV at E;split at E;cases hx;split at E;simp at E;obtain ⟨rfl,rfl⟩:=E;cases aI;exact ⟨w,by simp[Builtin.copy_,run_underlying aO,Builtin.lenOf,Builtin.firstCells,hX.run_sizeOf,goInt],.int _ _,dr.refl h rfl⟩;simp at E;obtain ⟨rfl,rfl⟩:=E;cases aI<;>exact ⟨w,by simp[Builtin.copy_,run_underlying aO,Builtin.lenOf,Builtin.firstCells,hX.run_sizeOf,goInt,xx],.int _ _,dr.refl h rfl⟩;simp at E;obtain ⟨rfl,rfl⟩:=E;cases aI;exact ⟨w,by simp[Builtin.copy_,run_underlying aO,Builtin.lenOf,Builtin.firstCells,hX.run_sizeOf,goInt],.int _ _,dr.refl h rfl⟩;cases E;rename_i a len cap;split at E;cases E;rename_i n l sj;obtain ⟨hlen,ih,news,eb,amc⟩:=aq4 (P:=P) h PK aI sj;have Ao:=eb.length;have main:∀(a8:Addr) (bj:Nat) (m:Nat) (w':World),min n len=m->(storeCells a8 (news.take (m*te.size))).run P w=.ok () w'->
   (Builtin.copy_ #[t,u] ty #[.slice (some a8) len bj,dY]).run P w=.ok (.int .i64 m) w':=by
  intro a8 bj m w' hm jx;have aM:=amc (min n len) (Nat.min_le_left _ _);rw[hm]at aM;have kI:Nat.min n len=m:=hm;simp[Builtin.copy_,run_underlying aO,ih,hX.run_sizeOf,kI,aM,jx,goInt]
 cases hm:min n len with
 |zero=>
  simp only[hm]at E;simp at E;obtain ⟨rfl,rfl⟩:=E;cases hx with
  |slice b o l' c bj j aG J U=>exact ⟨w,by simpa using main _ bj 0 w hm (by simp[storeCells]),.int _ _,dr.refl h rfl⟩
  |lW a a8 wa vV=>exact ⟨w,by simpa using main a8 0 0 w hm (by simp[storeCells]),.int _ _,dr.refl h rfl⟩
 |succ m=>
  simp only[hm]at E;split at E;split at E;rename_i bc hw;simp at E;obtain ⟨rfl,rfl⟩:=E;cases hx with
  |lW a a8 wa vV=>simp at hm
  |slice b o l' c bj j aG J U=>
   obtain ⟨dj,dL,eH,e0⟩:=h.store hw (yF _ _ (by simp[g6]) aG) aG (eb.take _);have jx:=run_storeCells_cells (P:=P) j.r (j.o+o) (news.take ((m+1)*te.size)) 0 w (by simpa using dj) (by simpa using dL) eH;exact ⟨_,by simpa using main _ bj (m+1) _ hm jx,.int _ _,e0⟩
  cases E;cases E
 cases E
theorem lh.length{es:List (Value×Value)}{ms:List MapEntry}(h:lh ι es ms):es.length=ms.length:=by
 induction es generalizing ms with
 |nil=>cases ms with
  |nil=>rfl
  |cons m ms=>exact h.elim
 |cons x es a3=>cases ms with
  |nil=>obtain ⟨a,b⟩:=x;exact h.elim
  |cons m ms=>obtain ⟨a,b⟩:=x;simp[a3 h.2.2]
theorem aca{x x':Value}{l l':List Value}(hx:cE ι x x')(Z:dJ ι l l'){v:Value}(w:World):(mP true x l=some v->(l'.foldlM Builtin.max2 x').run P w=.ok v w∧cE ι v v)∧
  (mP false x l=some v->(l'.foldlM Builtin.min2 x').run P w=.ok v w∧cE ι v v):=by
 induction l generalizing x x' l' with
 |nil=>
  cases Z;cases hx<;>simp[mP];intro h;subst h;exact ⟨rfl,.int _ _⟩
 |cons y l a3=>
  cases Z with
  |cons _ dY _ l' aI Z=>
   cases hx<;>try (simp[mP];done)
   cases aI<;>try (simp[mP];done)
   rename_i k a k' b;constructor;intro h;simp only[mP]at h;have:=(a3 (.int _ _) Z).1 h;refine ⟨?_,this.2⟩;simp only[List.foldlM_cons,Sem.run_bind,Builtin.max2,Sem.run_pure,Result.andThen_ok];simpa using this.1;intro h;simp only[mP]at h;have:=(a3 (.int _ _) Z).2 h;refine ⟨?_,this.2⟩;simp only[List.foldlM_cons,Sem.run_bind,Builtin.min2,Sem.run_pure,Result.andThen_ok];simpa using this.1
theorem adS:∀ {l:List Value} {bs:List UInt8},qQ l=some bs-> ∃qH:List Int,l=qH.map (Value.int .u8)∧bs=qH.map λn=>UInt8.ofNat n.toNat
 |[],bs,h=>by simp[qQ]at h;subst h;exact ⟨[],rfl,rfl⟩
 |v::l,bs,h=>by
  unfold qQ at h;split at h;rename_i h';cases h';rename_i n r h';cases h';split at h;rename_i l' dK;simp at h;subst h;obtain ⟨qH,rfl,rfl⟩:=adS dK;exact ⟨n::qH,rfl,rfl⟩;cases h;cases h
theorem dJ.ints{k:IntKind}{qH:List Int}{l':List Value}(h:dJ ι (qH.map (Value.int k)) l'):l'=qH.map (Value.int k):=by
 induction qH generalizing l' with
 |nil=>cases h;rfl
 |cons n qH a3=>cases h with
  |cons _ v' _ l' ad Z=>cases ad;rw[a3 Z];rfl
theorem dr.aiQ(h:fZ aq T ι aQ B s w){cs cs' more:List Value}{e:Nat}(gl:Nat×Nat)(bx:Bool)(x:Nat)(hw:w'.heap=w.heap.push (.cells (cs'++more).toArray e gl))(aa:dJ ι cs cs')
  (hm:x*zj T e=more.length) (ry:(cs'++more).length<=gl.1) (hx:bx=false->x=0) (fv:w'.os=w.os∧w'.output=w.output:=by exact ⟨rfl,rfl⟩):dr aq T B ι aQ s w (ι.add s.n ⟨w.heap.size,0,x⟩) (newObj s (.cells cs e bx true)) w':=by
 have Y:=h.base;have hlen:=aa.length;have tj:∀j,w'.cell? ⟨w.heap.size,j,none⟩=(cs'++more)[j]? :=λj=>by simp[World.cell?,hw]
 refine dr.new h _ _ x hw ⟨by rw[hw];simp,λj v aG=>?_,λj aG=>?_,hx,λ_=>⟨Y,λj aG=>?_⟩,λaM=>by simp at aM⟩ fv;obtain ⟨v',fx,eb⟩:=aa.get aG;refine ⟨v',?_,eb.mono (bF.Dd h.lt _)⟩;rw[gD,tj];simp[vi (show j<cs'.length from (nX.1 fx).1),fx];rw[gD,tj];simp at aG ⊢;omega;obtain ⟨lo,hi⟩:=gl;simp only[hZ]at ry aG;simp only[World.frozen?,hw,Array.getElem?_push_size,gD];simp;intro ih;omega
theorem apT(cA:iF P T)(h:fZ aq T ι aQ B s w){src dst:Nat}{x x':Value}(iJ:∀b i,b∈g6 x->ι b=some i->aQ b)(hx:cE ι x x'){v:Value}(E:n1 T src dst x s=some (v,s')):
  ∃bI v' w',(Go.convert src dst x').run P w=.ok v' w'∧cE bI v v'∧dr aq T B ι aQ s w bI s' w':=by
 unfold n1 at E;split at E
 ·rename_i k₁ _ _ _ k _ _ _ k₂ n ae ai;cases hx;simp at E;obtain ⟨rfl,rfl⟩:=E;have hU:=(cA src _ ae).int rfl;have eP:=(cA dst _ ai).int rfl;exact ⟨ι,_,w,by simp[Go.convert,run_underlying hU,run_underlying eP,Conv.intToInt],.int _ _,dr.refl h rfl⟩
 ·rename_i st ae ai;cases hx;simp at E;obtain ⟨rfl,rfl⟩:=E;have hU:=(cA src _ ae).string rfl;have eP:=(cA dst _ ai).string rfl;exact ⟨ι,_,w,by simp[Go.convert,run_underlying hU,run_underlying eP],.string _,dr.refl h rfl⟩
 ·rename_i e _ _ _ _ _ _ a len cap ae ai;have hU:=(cA src _ ae).slice rfl;have eP:=(cA dst _ ai).string rfl;split at E;rename_i _ _ _ he;have mi:=(cA e _ he).int rfl;split at E;simp at E;obtain ⟨rfl,rfl⟩:=E;cases hx;exact ⟨ι,_,w,run_convert_bytes_nil w src e hU mi _ _ dst eP,.string _,dr.refl h rfl⟩;rename_i a;split at E;rename_i l Z;split at E;rename_i bs sh;simp at E;obtain ⟨rfl,rfl⟩:=E;obtain ⟨qH,rfl,rfl⟩:=adS sh;refine ⟨ι,.string (strOfNums qH),w,?_,?_,dr.refl h rfl⟩;cases hx with
  |slice b o l' c bj j aG J U=>
   obtain ⟨hlen,news,eb,aa⟩:=h.read Z (iJ _ _ (by simp[g6]) aG) aG;have Z8:=eb.ints;subst Z8;refine run_convert_bytes_arg w src e hU mi j.r (j.o+o) len bj qH (by simpa using hlen) (λi hi=>?_) dst eP;have fw:i<qH.length:=by
    have:qH.length=len:=by simpa using hlen
    omega
   refine aa i _ ?_;simp[mA fw,List.getD]
  |lW a a8 wa vV=>
   have yU:qH=[]:=by
    unfold o2 at Z;split at Z;split at Z;simp at Z;exact Z;cases Z;cases Z
   subst yU;rw[run_convert_bytes_string w src dst e _ 0 0 hU mi eP,run_bytesToString w a8 0 0 [] (by simpa using run_loadCells_list (P:=P) w a8 [] (by simp))];rfl
  exact .string _;cases E;cases E;cases E
 ·rename_i e _ _ _ st ae ai;have hU:=(cA src _ ae).string rfl;have eP:=(cA dst _ ai).slice rfl;split at E
  ·rename_i _ _ _ he;have hX:=cA e _ he;have mi:=hX.int rfl;split at E
   rotate_left
   cases E;rename_i uS;have uS:=kj uS;simp at E;obtain ⟨rfl,rfl⟩:=E;cases hx;have KL:st.size<=grownCap w st.size 0 e:=grownCap_ge w st.size 0 e;have iN:zj T e=1:=by
    rw[MD he];exact uS
   have Fu:((st.data.map λb=>Value.int .u8 b.toNat)++Array.replicate (grownCap w st.size 0 e - st.size) (.int .u8 0))=(byteCells st++List.replicate (grownCap w st.size 0 e - st.size) (Value.int .u8 0)).toArray:=by
    apply Array.ext';simp[byteCells]
   have aml:∀c:Array Value,(w.drew.alloc (.cells c e)).freeze ⟨w.heap.size,c.size,none⟩ 1= { w.drew with heap:=w.heap.push (.cells c e (c.size,c.size+1)) } :=by
    intro c;simp only[World.freeze,World.alloc,World.drew];simp;apply Array.ext_getElem?;intro j;simp only[Array.getElem?_modify,Array.getElem?_push];by_cases aG:j=w.heap.size;subst aG;simp;simp[aG,Ne.symm aG]
   have ie:=dr.aiQ (s:=s) (e:=e) (cs:=ofBytes st.data.toList) (cs':=byteCells st) (more:=List.replicate (grownCap w st.size 0 e - st.size) (Value.int .u8 0)) h
    ((byteCells st++List.replicate (grownCap w st.size 0 e - st.size) (Value.int .u8 0)).toArray.size,(byteCells st++List.replicate (grownCap w st.size 0 e - st.size) (Value.int .u8 0)).toArray.size+1) true
    (grownCap w st.size 0 e - st.size) (w':= { w.drew with heap:=w.heap.push (.cells (byteCells st++List.replicate (grownCap w st.size 0 e - st.size) (Value.int .u8 0)).toArray e
     ((byteCells st++List.replicate (grownCap w st.size 0 e - st.size) (Value.int .u8 0)).toArray.size,(byteCells st++List.replicate (grownCap w st.size 0 e - st.size) (Value.int .u8 0)).toArray.size+1)) }) rfl (.bytes _) (by rw[iN];simp) (by simp) (λaM=>by simp at aM)
   refine ⟨_,.slice (some ⟨w.heap.size,0,none⟩) st.size (grownCap w st.size 0 e),_,?_,?_,ie⟩;rw[<-aml];have KJ:(choose (.appendCap st.size 0 e)).run P w=.ok (grownCap w st.size 0 e) w.drew:=by rw[run_choose];simp only[Question.forced,vj,if_false];rfl
   have ang:∀c:Array Value,(w.drew.alloc (.cells c e)).shape? w.heap.size=some (e,c.size):=λc=>by
    have:(w.drew.alloc (.cells c e)).heap[w.heap.size]? =some (.cells c e):=World.alloc_heap_new w.drew _;simp only[World.shape?,this]
   simp only[Go.convert,Sem.run_bind,run_underlying hU,run_underlying eP,Result.andThen_ok,run_underlying mi,Conv.stringToBytes,KJ,newRow,run_newObj_alloc,Sem.run_pure,Fu,markStringish,run_shape];have Fv:w.drew.heap.size=w.heap.size:=rfl;rw[Fv,ang];simp;exact .slice s.n 0 _ _ _ _ (bF.add_same _ _ _) KL (by simp;omega)
  cases E
 cases E
end
end Go.ah
