/-
  A part: lemmas; conditions: those that each names.
-/
import Derived.LoopNIn
import Derived.Scope
import Derived.Test.YtalmddmghdinkaaGreatDoorC
set_option linter.all false
set_option linter.deprecated false
noncomputable section
namespace Go.ah
open Go
section
variable {aq:Nat}{T:Types}{B:Nat}{ι:bF}{aQ:Nat->Prop}{s s':b9}{w w':World}{P:Program}
def uh(ι:bF)(aQ:Nat->Prop):Reach->Prop
 |none=> ∀b i,ι b=some i->aQ b
 |some l=> ∀b i,b∈l->ι b=some i->aQ b
def Oq(aq:Nat)(T:Types)(B:Nat)(ι:bF)(aQ:Nat->Prop)(P:Program)(s:b9)(w:World)(Mq:Sem Next):nE×b9->Prop
 |(.val v,s')=> ∃bI v' w',(Mq.run P w=.ok (.value v') w'∨(Mq.run P w=.ok .skip w'∧v'=undef))∧cE bI v v'∧dr aq T B ι aQ s w bI s' w'
 |(.call f args,s')=>s'=s∧ ∃args':Array Value,dJ ι args args'.toList∧Mq.run P w=(callFunc f args').run P w
 |(.round l args,s')=>s'=s∧ ∃i,∃args':Array Value,ι l=some i∧dJ ι args args'.toList∧Mq.run P w=(Instr.yield i.r args').run P w
theorem dJ.map{ρ dq:Operand->Value} :∀ {l:List Operand},(∀x∈l,cE ι (ρ x) (dq x))->dJ ι (l.map ρ) (l.map dq)
 |[],_=>.nil
 |x::l,h=>.cons _ _ _ _ (h x (by simp)) (dJ.map λy aI=>h y (by simp[aI]))
theorem ue.map{ρ dq:Operand->Value} :∀ {l:List (Nat×Operand)},(∀x∈l,cE ι (ρ x.2) (dq x.2))->ue ι (l.map λp=>(p.1,ρ p.2)) (l.map λp=>(p.1,dq p.2))
 |[],_=>trivial
 |x::l,h=>⟨rfl,h x (by simp),ue.map λy aI=>h y (by simp[aI])⟩
theorem apS(cA:iF P T)(h:fZ aq T ι aQ B s w)(b:Builtin)(lE:Array Nat)(ty:Nat)(cs:Array Bool){args:List Value}{args':Array Value}(av:dJ ι args args'.toList)
  (iJ:∀b i,b∈args.flatMap g6->ι b=some i->aQ b) {r:nE×b9} (E:iR T b lE.toList args s=some r):
  Oq aq T B ι aQ P s w (Go.builtin b lE ty cs args') r:=by
 have zk:∀ {o:Option (Value×b9)} {r:nE×b9},two o=some r-> ∃v s',o=some (v,s')∧r=(.val v,s'):=by
  intro o r h;cases o with
  |none=>cases h
  |some x=>obtain ⟨v,s'⟩:=x;simp[two]at h;exact ⟨v,s',rfl,h.symm⟩
 obtain ⟨lE⟩:=lE;obtain ⟨args'⟩:=args';unfold iR at E;split at E
 ·
  rename_i t x lQ;simp only[]at lQ;subst lQ;cases av with|cons _ x' _ _ hx av=>cases av with|nil=>
  split at E;rename_i _ _ _ st aO;have hu:=(cA t _ aO).string rfl;simp at E;subst E;cases hx;exact ⟨ι,_,w,.inl (by simp[Go.builtin,Builtin.len_,run_underlying hu,goInt]),.int _ _,dr.refl h rfl⟩;rename_i n _ _ _ _ _ aO;have hu:=(cA t _ aO).array rfl;simp at E;subst E;exact ⟨ι,_,w,.inl (by simp[Go.builtin,Builtin.len_,run_underlying hu,goInt]),.int _ _,dr.refl h rfl⟩;rename_i _ _ _ _ a n c aO;have hu:=(cA t _ aO).slice rfl;simp at E;subst E;cases hx<;>exact ⟨ι,_,w,.inl (by simp[Go.builtin,Builtin.len_,run_underlying hu,goInt]),.int _ _,dr.refl h rfl⟩;rename_i _ _ _ _ _ aO;have hu:=(cA t _ aO).map rfl;simp at E;subst E;cases hx;exact ⟨ι,_,w,.inl (by simp[Go.builtin,Builtin.len_,run_underlying hu,goInt]),.int _ _,dr.refl h rfl⟩;rename_i _ _ _ _ _ b aO;have hu:=(cA t _ aO).map rfl;split at E;rename_i es own Y;simp at E;subst E;cases hx with
  |map _ i hi=>
   have aE:=h.obj b _ i (iJ _ _ (by simp[g6]) hi) Y hi;obtain ⟨ms,clock,uQ,l,al,hx⟩:=aE.there;have au:(getObj i.r).run P w=.ok (.map ms clock) w:=by simp[getObj,Sem.run,uQ]
   have hlen:es.length=ms.size:=by
    rw[al.length,<-zt];rcases hx with rfl|⟨_,hx,_⟩
    rfl;exact hx.length_eq
   exact ⟨ι,_,w,.inl (by simp[Go.builtin,Builtin.len_,run_underlying hu,goInt,au];rfl),by rw[hlen];exact .int _ _,dr.refl h rfl⟩
  cases E;cases E
 ·
  rename_i t x lQ;simp only[]at lQ;subst lQ;cases av with|cons _ x' _ _ hx av=>cases av with|nil=>
  split at E;rename_i _ _ _ _ n c aO;have hu:=(cA t _ aO).slice rfl;simp at E;subst E;cases hx;exact ⟨ι,_,w,.inl (by simp[Go.builtin,Builtin.cap_,run_underlying hu,goInt]),.int _ _,dr.refl h rfl⟩;rename_i _ _ _ _ a n c aO;have hu:=(cA t _ aO).slice rfl;split at E;rename_i cs' aZ own Y;simp at E;subst E;cases hx with
  |slice b o l c bj i hi J U=>
   have aE:=h.obj b _ i (iJ _ _ (by simp[g6]) hi) Y hi;have:=aE.tight rfl;have e:bj=c:=by rw[this]at U;omega
   subst e;exact ⟨ι,_,w,.inl (by simp[Go.builtin,Builtin.cap_,run_underlying hu,goInt]),.int _ _,dr.refl h rfl⟩
  |lW a a8 wa vV=>exact ⟨ι,_,w,.inl (by simp[Go.builtin,Builtin.cap_,run_underlying hu,goInt]),.int _ _,dr.refl h rfl⟩
  cases E;cases E
 ·
  rename_i t u x y lQ;simp only[]at lQ;subst lQ;cases av with|cons _ x' _ _ hx av=>cases av with|cons _ dY _ _ aI av=>cases av with|nil=>
  split at E;rename_i e _ _ _ aZ _ _ _ aO hu;split at E;rename_i te a n c dv;obtain ⟨v,s',ad,rfl⟩:=zk E;have p6:=(cA u _ hu).slice rfl;obtain ⟨bI,v',w',J,U,aj⟩:=ab8 (P:=P) (ty:=ty) cA h ((cA t _ aO).slice rfl) dv (λb i Y=>iJ b i (by simp[Y])) (λb i Y=>iJ b i (by simp[Y])) hx aI (.inl ⟨aZ,p6⟩) (λst e=>by cases e) (λ_ _ _ _=>⟨aZ,p6⟩) ad;exact ⟨bI,v',w',.inl (by simp[Go.builtin,J]),U,aj⟩;cases E;rename_i e _ _ _ _ _ _ aO hu;split at E;rename_i te st dv;obtain ⟨v,s',ad,rfl⟩:=zk E;have p6:=(cA u _ hu).string rfl;obtain ⟨bI,v',w',J,U,aj⟩:=ab8 (P:=P) (ty:=ty) cA h ((cA t _ aO).slice rfl) dv (λb i Y=>iJ b i (by simp[Y])) (λb i Y=>iJ b i (by simp[Y])) hx aI (.inr p6) (λ_ _=>p6) (λa b c e=>by cases e) ad;exact ⟨bI,v',w',.inl (by simp[Go.builtin,J]),U,aj⟩;cases E;rename_i e _ _ _ k _ _ _ aO hu;split at E;rename_i te dv;obtain ⟨v,s',ad,rfl⟩:=zk E;obtain ⟨bI,v',w',J,U,aj⟩:=ap7 (P:=P) (ty:=ty) cA h ((cA t _ aO).slice rfl) dv ((cA u _ hu).int rfl) hx aI ad;exact ⟨bI,v',w',.inl (by simp[Go.builtin,J]),U,aj⟩;cases E;cases E
 ·
  rename_i t u x y lQ;simp only[]at lQ;subst lQ;cases av with|cons _ x' _ _ hx av=>cases av with|cons _ dY _ _ aI av=>cases av with|nil=>
  split at E;rename_i e _ _ _ aO;split at E;rename_i te dv;obtain ⟨v,s',ad,rfl⟩:=zk E;obtain ⟨w',J,U,aj⟩:=apU (P:=P) (ty:=ty) (u:=u) cA h ((cA t _ aO).slice rfl) dv (λb i Y=>iJ b i (by simp[Y])) (λb i Y=>iJ b i (by simp[Y])) hx aI ad;exact ⟨ι,v,w',.inl (by simp[Go.builtin,J]),U,aj⟩;cases E;cases E
 ·
  rename_i x l;cases av with|cons _ x' _ l' hx av=>
  unfold one at E;split at E;rename_i v ad;simp at E;subst E;obtain ⟨J,U⟩:=(aca (P:=P) hx av w).1 ad;exact ⟨ι,v,w,.inl (by simp[Go.builtin,Builtin.max_,J]),U,dr.refl h rfl⟩;cases E
 ·rename_i x l;cases av with|cons _ x' _ l' hx av=>
  unfold one at E;split at E;rename_i v ad;simp at E;subst E;obtain ⟨J,U⟩:=(aca (P:=P) hx av w).2 ad;exact ⟨ι,v,w,.inl (by simp[Go.builtin,Builtin.min_,J]),U,dr.refl h rfl⟩;cases E
 cases E
theorem qq.map{ρ dq:Operand->Value}{o:Option Operand}(h:∀x,o=some x->cE ι (ρ x) (dq x)):qq ι (o.map ρ) (o.map dq):=by
 cases o with
 |none=>trivial
 |some x=>exact h x rfl
theorem wu{o:Option Value}{r:nE×b9}(h:one o s=some r):∃v,o=some v∧r=(.val v,s):=by
 cases o with
 |none=>cases h
 |some v=>simp[one]at h;exact ⟨v,rfl,h.symm⟩
theorem zk{o:Option (Value×b9)}{r:nE×b9}(h:two o=some r):∃v s',o=some (v,s')∧r=(.val v,s'):=by
 cases o with
 |none=>cases h
 |some x=>obtain ⟨v,s'⟩:=x;simp[two]at h;exact ⟨v,s',rfl,h.symm⟩
theorem adO{o:Option b9}{r:nE×b9}(h:three o=some r):∃s',o=some s'∧r=(.val undef,s'):=by
 cases o with
 |none=>cases h
 |some x=>simp[three]at h;exact ⟨x,rfl,h.symm⟩
theorem Pk(cA:iF P T)(h:fZ aq T ι aQ B s w)(o:Oper){ρ dq:Operand->Value}(dC:∀x∈o.op.operands,cE ι (ρ x) (dq x))(iJ:uh ι aQ (cp ρ o.op)){r:nE×b9}
  (E:evalOp T ρ s o.op=some r):Oq aq T B ι aQ P s w (execOp dq o) r:=by
 obtain ⟨dst,op,ty,pos,after,guard⟩:=o;have pD:∀ {v v'},cE ι v v'->(execOp dq ⟨dst,op,ty,pos,after,guard⟩).run P w=.ok (.value v') w->Oq aq T B ι aQ P s w (execOp dq ⟨dst,op,ty,pos,after,guard⟩) (.val v,s):=
  λ{v v'} ad he=>⟨ι,v',w,.inl he,ad,dr.refl h rfl⟩
 simp only[]at dC iJ E;cases op<;>simp only[evalOp]at E<;>try (cases E;done)
 case move x=>
  simp at E;subst E;exact pD (dC x (by simp[Op.operands])) (by simp[execOp])
 case assign x=>
  simp at E;subst E;exact pD (dC x (by simp[Op.operands])) (by simp[execOp])
 case pick c a b=>
  have aa:=dC c (by simp[Op.operands]);have av:=dC a (by simp[Op.operands]);have Y:=dC b (by simp[Op.operands]);split at E;rename_i e;simp at E;subst E;rw[e]at aa;generalize iU:dq c=bj at aa;cases aa;exact pD av (by simp[execOp,iU,asBool]);rename_i e;simp at E;subst E;rw[e]at aa;generalize iU:dq c=bj at aa;cases aa;exact pD Y (by simp[execOp,iU,asBool]);cases E
 case alloc t=>
  split at E;rename_i ti aO;simp[two]at E;subst E;obtain ⟨bI,v',w',J,U,aj⟩:=apN (P:=P) cA h aO (r:=(rN s (eJ ti.zero) t false).1) (s':=(rN s (eJ ti.zero) t false).2) rfl;exact ⟨bI,v',w',.inl (by simp[execOp,J]),U,aj⟩;cases E
 case box t x=>
  simp[two]at E;subst E;obtain ⟨bI,v',w',J,U,aj⟩:=apP (P:=P) h (t:=t) (dC x (by simp[Op.operands])) (r:=(rN s (eJ (ρ x)) t false).1) (s':=(rN s (eJ (ρ x)) t false).2) rfl;exact ⟨bI,v',w',.inl (by simp[execOp,J]),U,aj⟩
 case build t ps=>
  obtain ⟨v,ad,rfl⟩:=wu E;have al:ue ι (lA ρ ps) ((ps.map λ(i,x)=>(i,dq x)).toList):=by
   simp only[lA,Array.toList_map];exact ue.map λx hx=>dC x.2 (by simp[Op.operands];exact ⟨x.1,by simpa using hx⟩)
  obtain ⟨v',J,U⟩:=apQ (P:=P) cA al ad w;exact pD U (by simp[execOp,J])
 case buildSlice t len ps=>
  obtain ⟨v,s',ad,rfl⟩:=zk E;have al:ue ι (lA ρ ps) ((ps.map λ(i,x)=>(i,dq x)).toList):=by
   simp only[lA,Array.toList_map];exact ue.map λx hx=>dC x.2 (by simp[Op.operands];exact ⟨x.1,by simpa using hx⟩)
  obtain ⟨bI,v',w',J,U,aj⟩:=apR (P:=P) cA h al ad;exact ⟨bI,v',w',.inl (by simp[execOp,J]),U,aj⟩
 case load t a=>
  have av:=dC a (by simp[Op.operands]);split at E;rename_i ti p aO al;obtain ⟨v,ad,rfl⟩:=wu E;rw[al]at av;simp only[cp,al,g6,uh]at iJ;have iJ:aQ p.block:=by
   generalize dq a=q at av;cases av with
   |ptr b o i hi=>exact iJ _ i (by simp) hi
  obtain ⟨v',J,U⟩:=ab9 (P:=P) cA h aO av iJ ad;exact pD U (by simp[execOp,J]);cases E
 case store t a x=>
  have av:=dC a (by simp[Op.operands]);have hx:=dC x (by simp[Op.operands]);split at E;rename_i ti p aO al;obtain ⟨s',ad,rfl⟩:=adO E;rw[al]at av;simp only[cp,al,g6,uh]at iJ;have iJ:aQ p.block:=by
   generalize dq a=q at av;cases av with
   |ptr b o i hi=>exact iJ _ i (by simp) hi
  obtain ⟨w',J,U⟩:=ap4 (P:=P) cA h aO av iJ hx ad;exact ⟨ι,undef,w',.inr ⟨by simp[execOp,J],rfl⟩,.undef _,U⟩;cases E
 case nilCheck x=>
  have hx:=dC x (by simp[Op.operands]);split at E;all_goals first
   |(cases E;done)
   |(
    rename_i e;simp at E;subst E;rw[e]at hx;generalize anJ:dq x=x' at hx;have h3:=hx;cases hx;exact pD h3 (by simp[execOp,anJ]))
 case binOp op t x y awo=>
  obtain ⟨v,ad,rfl⟩:=wu E;obtain ⟨J,U⟩:=apO (P:=P) cA (dC x (by simp[Op.operands])) (dC y (by simp[Op.operands])) ad x y w;exact pD U (by
   simp only[execOp,Sem.run_bind]at J ⊢;rw[J];rfl)
 case unOp op t x=>
  obtain ⟨v,ad,rfl⟩:=wu E;obtain ⟨J,U⟩:=ap5 (P:=P) (dC x (by simp[Op.operands])) ad w;exact pD U (by simp[execOp,J])
 case convert a b x=>
  obtain ⟨v,s',ad,rfl⟩:=zk E;obtain ⟨bI,v',w',J,U,aj⟩:=apT (P:=P) cA h (by simpa only[cp,uh] using iJ) (dC x (by simp[Op.operands])) ad;exact ⟨bI,v',w',.inl (by simp[execOp,J]),U,aj⟩
 case makeFunc fn first captured=>
  split at E;rename_i f;simp at E;subst E;have aC:first.map dq=⟨first.toList.map dq⟩:=by apply Array.ext';simp
  have ba:captured.map dq=⟨captured.toList.map dq⟩:=by apply Array.ext';simp
  exact pD (v':=.func (.func f) ⟨first.toList.map dq⟩ ⟨captured.toList.map dq⟩) (.func _ _ _ _ _
    (dJ.map λx hx=>dC x (by simp[Op.operands];exact .inl (by simpa using hx)))
    (dJ.map λx hx=>dC x (by simp[Op.operands];exact .inr (by simpa using hx)))) (by
     simp only[execOp,Instr.makeFunc,Sem.run_bind,Sem.run_pure,Result.andThen_ok,aC,ba])
  cases E
 case makeMap t r=>
  split at E;rename_i k v _ _ _ aO;simp[two]at E;subst E;obtain ⟨bI,v',w',J,U,aj⟩:=ap1 (P:=P) h t;exact ⟨bI,v',w',.inl (by simp[execOp,J]),U,aj⟩;cases E
 case makeSlice t l c=>
  obtain ⟨v,s',ad,rfl⟩:=zk E;obtain ⟨bI,v',w',J,U,aj⟩:=ap2 (P:=P) cA h (dC l (by simp[Op.operands])) (dC c (by simp[Op.operands])) ad;exact ⟨bI,v',w',.inl (by simp[execOp,J]),U,aj⟩
 case slice t x lo hi dk=>
  have hx:=dC x (by simp[Op.operands]);have ih:qq ι (lo.map ρ) (lo.map dq):=qq.map λy aI=>dC y (by simp[Op.operands,aI]);have jw:qq ι (hi.map ρ) (hi.map dq):=qq.map λy aI=>dC y (by simp[Op.operands,aI]);have lP:qq ι (dk.map ρ) (dk.map dq):=qq.map λy aI=>dC y (by simp[Op.operands,aI]);split at E;cases E;rename_i jK;obtain ⟨v,ad,rfl⟩:=wu E;obtain ⟨v',J,U⟩:=ap3 (P:=P) cA hx ih jw lP (λe=>by
   cases hi with
   |some y=>simp at e
   |none=>cases dk with
    |none=>rfl
    |some y=>exact absurd rfl (jK y rfl)) ad w
  exact pD U (by simp[execOp,J])
 case fieldAddr t x f=>
  obtain ⟨v,ad,rfl⟩:=wu E;obtain ⟨v',J,U⟩:=apX (P:=P) cA (dC x (by simp[Op.operands])) ad w;exact pD U (by simp[execOp,J])
 case field t x f=>
  obtain ⟨v,ad,rfl⟩:=wu E;obtain ⟨v',J,U⟩:=apW (P:=P) cA (dC x (by simp[Op.operands])) ad w;exact pD U (by simp[execOp,J])
 case indexAddr t x i=>
  obtain ⟨v,ad,rfl⟩:=wu E;obtain ⟨v',J,U⟩:=apZ (P:=P) cA (dC x (by simp[Op.operands])) (dC i (by simp[Op.operands])) ad w;exact pD U (by simp[execOp,J])
 case index t x i=>
  obtain ⟨v,ad,rfl⟩:=wu E;obtain ⟨v',J,U⟩:=apY (P:=P) cA (dC x (by simp[Op.operands])) (dC i (by simp[Op.operands])) ad w;exact pD U (by simp[execOp,J])
 case lookup t x i ok=>
  obtain ⟨v,ad,rfl⟩:=wu E;obtain ⟨v',J,U⟩:=ap0 (P:=P) cA h (dC x (by simp[Op.operands])) (dC i (by simp[Op.operands])) (λr e=>by
   simp only[cp,e,g6,uh]at iJ;have hx:=dC x (by simp[Op.operands]);rw[e]at hx;generalize dq x=q at hx;cases hx with
   |map _ i hi=>exact iJ _ i (by simp) hi) ad
  exact pD U (by simp[execOp,J])
 case mapUpdate t m k v=>
  obtain ⟨s',ad,rfl⟩:=adO E;obtain ⟨w',J,U⟩:=ap6 (P:=P) cA h (dC m (by simp[Op.operands])) (dC k (by simp[Op.operands])) (dC v (by simp[Op.operands])) (λr e=>by
   simp only[cp,e,g6,uh]at iJ;have hx:=dC m (by simp[Op.operands]);rw[e]at hx;generalize dq m=q at hx;cases hx with
   |map _ i hi=>exact iJ _ i (by simp) hi) ad
  exact ⟨ι,undef,w',.inr ⟨by simp[execOp,J],rfl⟩,.undef _,U⟩
 case extract t i=>
  have hx:=dC t (by simp[Op.operands]);split at E;rename_i vs e;split at E;rename_i v r' ai;simp at E;subst E;obtain ⟨v',J,U⟩:=apV (P:=P) hx e ai w;exact pD U (by simp[execOp,J]);cases E;cases E
 case call c=>
  obtain ⟨callee,args,q8⟩:=c;cases callee with
  |invoke a b=>simp[ix]at E
  |builtin b=>
   simp only[ix]at E;have av:dJ ι (args.toList.map ρ) (args.map dq).toList:=by
    rw[Array.toList_map];exact dJ.map λx hx=>dC x (by simp[Op.operands,Call.operands];simpa using hx)
   have:=apS (P:=P) cA h b q8 ty (args.map λ|.const _=>true|_=>false) av (by
    simp only[cp,uh]at iJ;intro b i Y;exact iJ b i (by rw[List.flatMap_map]at Y;exact Y)) E
   exact this
  |value f=>
   simp only[ix]at E;have aM:=dC f (by simp[Op.operands,Call.operands]);have av:dJ ι (args.toList.map ρ) (args.map dq).toList:=by
    rw[Array.toList_map];exact dJ.map λx hx=>dC x (by simp[Op.operands,Call.operands];exact .inr (by simpa using hx))
   split at E;rename_i g first captured e
   simp at E;subst E;rw[e]at aM;generalize yL:dq f=gj at aM;cases aM with
   |func _ a a8 b a4 J U=>
    refine ⟨rfl,(⟨a8⟩:Array Value)++args.map dq++⟨a4⟩,?_,?_⟩;have:=J.append (av.append U);simpa using this;simp[execOp,resolve,yL,Deferred.ofValue,invoke]
   rename_i l first captured e
   simp at E;subst E;rw[e]at aM;generalize yL:dq f=gj at aM;cases aM with
   |yield _ i hi=>
    refine ⟨rfl,i,args.map dq,hi,by simpa using av,?_⟩;simp[execOp,resolve,yL,Deferred.ofValue,invoke]
   cases E
end
section
variable {aq:Nat}{T:Types}{B:Nat}{ι bI nW:bF}{aQ BC:Nat->Prop}{s s' pF:b9}{w w' pJ:World}{P:Program}
theorem fZ.weaken(h:fZ aq T ι aQ B s w)(ai:∀b i,ι b=some i->BC b->aQ b):fZ aq T ι BC B s w:=
 ⟨λb o i Y aE hi=>h.obj b o i (ai b i hi Y) aE hi,λb a4 o o' i dt Y ft aE jL Z dK hi fw e=>h.inj b a4 o o' i dt (ai b i hi Y) (ai a4 dt fw ft) aE jL Z dK hi fw e,h.lt,h.base⟩
theorem dr.O0(h:dr aq T B ι aQ s w bI s' w')(ai:∀b i,ι b=some i->(aQ b↔BC b)):dr aq T B ι BC s w bI s' w':=by
 have key:∀b i,bI b=some i->(BC b∨s.n<=b)->(aQ b∨s.n<=b):=λb i hi sn=>by
  rcases h.ri b i hi with J|J
  rcases sn with U|U
  exact .inl ((ai b i J).2 U);exact .inr U;exact .inr J
 refine ⟨h.le,h.ri,h.iC.weaken key,h.n,h.ag,h.LI,λr E jK=>h.wg r E λb i o Y hi=>jK b i o ((ai b i hi).1 Y) hi,λb i o Y hi aE Z=>?_,h.size,h.out⟩;rcases h.sy b i o (key b i hi Y) hi aE Z with J|⟨hH,py,oj,J,U,aj⟩
 exact .inl J;exact .inr ⟨hH,py,oj,(ai hH py U).1 J,U,aj⟩
theorem dr.full(h:dr aq T B ι (Full ι) s w bI s' w'):fZ aq T bI (Full bI) B s' w':=
 h.iC.weaken λb i hi _=>(h.ri b i hi).imp (λh=>⟨i,h⟩) id
theorem dr.seq(h:dr aq T B ι (Full ι) s w bI s' w')(h':dr aq T B bI (Full bI) s' w' nW pF pJ):dr aq T B ι (Full ι) s w nW pF pJ:=
 h.trans (h'.O0 λb i hi=>⟨λ_=>(h.ri b i hi).imp (λh=>⟨i,h⟩) id,λ_=>⟨i,hi⟩⟩)
theorem fZ.Yw(h:fZ aq T ι (Full ι) B s w)(ai:∀b i,ι b=some i->aQ b):∀b i,ι b=some i->(Full ι b↔aQ b):=λb i hi=>⟨λ_=>ai b i hi,λ_=>⟨i,hi⟩⟩
theorem fZ.ag(h:fZ aq T ι aQ B s w)(k:Nat):fZ aq T ι aQ B { s with ag:=k } w:=⟨h.obj,h.inj,h.lt,h.base⟩
theorem dr.asW(h:dr aq T B ι aQ { s with ag:=s.n } w bI s' w')(ae:s.ag<=s.ag):dr aq T B ι aQ s w bI { s' with ag:=min s.ag s'.ag } w':=by
 refine ⟨h.le,h.ri,h.iC.ag _,h.n,Nat.min_le_left _ _,λb Y hm=>h.LI b Y (by simp at hm;omega),λr E jK=>h.wg r E λb i o Y hi aE Z hle=>jK b i o Y hi aE Z (by simp;omega),λb i o Y hi aE Z=>?_,h.size,h.out⟩;rcases h.sy b i o Y hi aE Z with J|⟨hH,py,oj,J,U,aj,aH,bD,cF⟩
 exact .inl J;refine .inr ⟨hH,py,oj,J,U,aj,aH,bD,?_⟩;rcases cF with cF|cF
 exact .inl cF;exact .inr (by simp;omega)
def Marks(ι:bF):List Nat->List Deferred->Prop
 |[],[]=>True
 |b::ms,d::dg=>(∃i,ι b=some i∧d= { target:=.collected i.r,args:= #[] })∧Marks ι ms dg
 |_,_=>False
theorem Marks.mono(hi:ι.le bI):∀ {ms:List Nat} {dg:List Deferred},Marks ι ms dg->Marks bI ms dg
 |[],[],_=>trivial
 |_::_,_::_,⟨⟨i,J,U⟩,aj⟩=>⟨⟨i,hi _ _ J,U⟩,aj.mono hi⟩
 |[],_::_,h=>h.elim
 |_::_,[],h=>h.elim
def w2(ι:bF):Option Nat->Option Nat->Prop
 |none,none=>True
 |some l,some r=> ∃i,ι l=some i∧i.r=r
 |_,_=>False
theorem w2.mono(hi:ι.le bI){ro fz:Option Nat}(h:w2 ι ro fz):w2 bI ro fz:=by
 cases ro<;>cases fz<;>first|trivial|exact h.elim|(obtain ⟨i,J,U⟩:=h;exact ⟨i,hi _ _ J,U⟩)
def oF(ro:Option Nat):Fence:= { Fence.wide with round:=ro }
def Cj:r7->Exit
 |.normal=>.normal
 |.exit id=>.exit id
 |.ret=>.ret
structure kD(aq:Nat)(T:Types)(B:Nat)(ι:bF)(fr:Fr)(a:Act)(w:World):Prop where
 iC:fZ aq T ι (Full ι) B fr.s w
 td:pR aq ι
 env:pP ι fr.e fr.bG a.tmps
 marks:Marks ι fr.ms a.defers
def nB(aq:Nat)(T:Types)(B:Nat)(ι:bF)(s:b9)(w:World)(x:r7)(fr':Fr):Exit->Act->World->Prop:=λe a8 w'=>
 e=Cj x∧ ∃bI,dr aq T B ι (Full ι) s w bI fr'.s w'∧kD aq T B bI fr' a8 w'
def sS(aq:Nat)(T:Types)(B:Nat)(ι:bF)(s:b9)(w:World)(v:Value)(s':b9):Ending->World->Prop:=λe w'=>
 ∃bI v',e=.returned v'∧cE bI v v'∧dr aq T B ι (Full ι) s w bI s' w'
def zA(P:Program)(f:Nat):Prop:= ∃fn,P.funcs[f]? =some fn∧fn.body.isSome=true∧(fn.name == "runtime.NumGoroutine")=false
theorem zA.run{f:Nat}(h:zA P f)(args:Array Value)(w:World):(callFunc f args).run P w=.ok (.enter f args) w:=by
 obtain ⟨fn,J,U,aj⟩:=h;cases Y:fn.body with
 |none=>simp[Y]at U
 |some c=>
  have z0: ¬fn.name= "runtime.NumGoroutine" :=by simpa using aj
  simp[callFunc,J,z0,Y]
variable {O:bo}{G:aJ Func}
def BA(aq:Nat)(T:Types)(B:Nat)(P:Program)(rec:Rec):Prop:= ∀f args s v s',rec (.call f args s)=some (.val v s')-> ∀(ι:bF) w (args':Array Value),fZ aq T ι (Full ι) B s w->pR aq ι->
 dJ ι args args'.toList->zA P f∧CallsIn Fence.wide 0 P f args' w (sS aq T B ι s w v s')
def Oz(aq:Nat)(T:Types)(B:Nat)(P:Program)(rec:Rec):Prop:= ∀l args s v s',rec (.round l args s)=some (.val v s')-> ∀(ι:bF) w (args':Array Value) i,fZ aq T ι (Full ι) B s w->pR aq ι->
 ι l=some i->dJ ι args args'.toList-> ∃f tmps aS9 er,(Instr.yield i.r args').run P w=.ok (.round i.r f tmps aS9 er) w∧RoundIn Fence.wide 0 P i.r f tmps aS9 er w (sS aq T B ι s w v s')
theorem semAt_eq{o:Oper}(h:∀c,o.op≠ .defer c)(ro:Option Nat)(ρ:Operand->Value):o.semAt ro ρ=execOp ρ o:=by
 unfold Oper.semAt;split;rename_i c e;exact absurd e (h c);rfl
theorem ap8(cA:iF P T){rec:Rec}(Le:w1 rec)(lN:BA aq T B P rec)(As:Oz aq T B P rec){ops:Array Oper}{aP:Bool}{flags:List fM}{o:Oper}{l:List Oper}{fr:Fr}{res:dG}
  (cK:qe aq o=true) (E:la T rec ops aP flags o l fr=some res):∃v bc fK bO,put fr o.dst v { bc with ag:=min fr.s.ag bc.ag } =some fK∧
   bO=⟨cp (bl fr.e) o.op,writes (bl fr.e) o.op (Nat.blt bc.ag fr.s.n),fr.s.n,bc.n⟩∧
   rec (.run ops aP (ll aP bO flags) l fK)=some res∧(iQ fr.s { bc with ag:=min fr.s.ag bc.ag } ∧ ∀b,b<fr.s.n-> ¬hD bO.w b->bc.h.get b=fr.s.h.get b)∧
   ∀(ι:bF) (aQ:Nat->Prop) (a:Act) (w:World) (ro:Option Nat) (next:Act->World->Prop) (Q:Exit->Act->World->Prop),fZ aq T ι aQ B fr.s w->pR aq ι->
    (∀x∈o.op.operands,cE ι (bl fr.e x) (a.eval x))->uh ι aQ (cp (bl fr.e) o.op)->
    (∀bI w' v',cE bI v v'->dr aq T B ι aQ { fr.s with ag:=fr.s.n } w bI bc w'->next (a.put o.dst v') w')->o.wpIn (oF ro) 0 P a w next Q:=by
 have Qd:∀ {v s c},done fr o v s c=some res-> ∃fK,put fr o.dst v { s with ag:=min fr.s.ag s.ag } =some fK∧c fK (Nat.blt s.ag fr.s.n) s.n=some res:=by
  intro v s c h;unfold done at h;split at h;cases h;rename_i fK J;exact ⟨fK,J,h⟩
 have An:∀c,o.op≠ .defer c:=by
  intro c e;unfold la at E;rw[e]at E;simp[evalOp]at E
 have od:∀ {bc:b9},iQ { fr.s with ag:=fr.s.n } bc->(∀b,b<fr.s.n-> ¬hD (hM (bl fr.e) o.op) b->bc.h.get b=fr.s.h.get b)->
   iQ fr.s { bc with ag:=min fr.s.ag bc.ag } ∧ ∀b,b<fr.s.n-> ¬hD (writes (bl fr.e) o.op (Nat.blt bc.ag fr.s.n)) b->bc.h.get b=fr.s.h.get b:=by
  intro bc ad hk;refine ⟨ad.ag,λb Y a5=>?_⟩;cases hw:Nat.blt bc.ag fr.s.n with
  |true=>rw[hw]at a5;exact hk b Y a5
  |false=>
   have Ag: ¬bc.ag<fr.s.n:=λh=>by rw[<-gy]at h;rw[h]at hw;cases hw
   rcases ad.k5 b Y with e|⟨_,U⟩
   exact e;exact absurd U D
 unfold la at E;split at E
 ·cases E
 ·rename_i v bc he;obtain ⟨fK,J,U⟩:=Qd E;have aM:=Ci he;refine ⟨v,bc,fK,_,J,rfl,U,od (iQ.of aM) (λb Y a5=>(aM.k5 b Y).resolve_right λx=>a5 x.1),λι aQ a w ro next Q iM au FQ aO CS=>⟨λ_ _=>trivial,?_⟩⟩;obtain ⟨bI,v',w',hP,ad,ie⟩:=Pk (P:=P) cA (iM.ag _) o FQ aO he;rw[semAt_eq An];rcases hP with hP|⟨hP,rfl⟩
  rw[hP];exact CS bI w' v' ad ie;rw[hP];exact CS bI w' _ ad ie
 ·rename_i f args ao he;split at E
  ·rename_i v bc hC;obtain ⟨fK,J,U⟩:=Qd E;have nP:cp (bl fr.e) o.op=none:=by
    cases pt:o.op<;>rw[pt]at he<;>simp only[evalOp]at he<;>first
     |(simp at he;done)
     |skip
    all_goals first
     |(exfalso;revert he;(repeat' split)<;>simp[one,two,three];done)
     |(exfalso;revert he;simp only[one,two,three];(repeat' split)<;>simp;done)
     |skip
    case call c=>
     unfold ix at he;split at he
     ·exfalso;rename_i b Y;revert he;unfold iR one two
      (repeat' split)<;>simp
     cases he;simp only[cp];rename_i aj8 P8;rw[P8]
   have Lo:hM (bl fr.e) o.op=none:=by
    cases pt:o.op<;>rw[pt]at nP<;>simp only[cp]at nP<;>try (cases nP;done)
    case call c=>
     simp only[hM];split at nP;cases nP;rename_i a5;first
      |rfl
      |(
       split;rename_i b Y;exact absurd Y (a5 b);rfl)
   refine ⟨v,bc,fK,_,J,rfl,?_,od ((iQ.of (Ci he)).trans (Le _ _ hC)) (λb Y a5=>absurd (by rw[Lo];trivial) a5),λι aQ a w ro next Q iM au FQ aO CS=>⟨λ_ _=>trivial,?_⟩⟩;rw[nP];exact U;rw[nP]at aO;obtain ⟨rfl,args',av,hP⟩:=Pk (P:=P) cA (iM.ag fr.s.n) o FQ (by rw[nP];exact aO) he;have Af:fZ aq T ι (Full ι) B { fr.s with ag:=fr.s.n } w:=(iM.ag _).weaken λb i hi _=>aO b i hi;obtain ⟨hB,j0⟩:=lN _ _ _ _ _ hC ι w args' Af au av;rw[semAt_eq An,hP,hB.run];refine ⟨λh=>by simp[oF,Fence.wide]at h,?_⟩;refine CallsIn.mono (F:=oF ro) (n:=0) (P:=P) (R:=sS aq T B ι { fr.s with ag:=fr.s.n } w v bc) j0 λe w' al=>?_;obtain ⟨bI,v',rfl,ad,ie⟩:=al;exact CS bI w' v' ad (ie.O0 (Af.Yw aO))
  cases E
 ·rename_i iA args ao he;split at E
  ·rename_i v bc hC;obtain ⟨fK,J,U⟩:=Qd E;have nP:cp (bl fr.e) o.op=none:=by
    cases pt:o.op<;>rw[pt]at he<;>simp only[evalOp]at he<;>first
     |(simp at he;done)
     |skip
    all_goals first
     |(exfalso;revert he;(repeat' split)<;>simp[one,two,three];done)
     |(exfalso;revert he;simp only[one,two,three];(repeat' split)<;>simp;done)
     |skip
    case call c=>
     unfold ix at he;split at he
     ·exfalso;rename_i b Y;revert he;unfold iR one two
      (repeat' split)<;>simp
     cases he;simp only[cp];rename_i aj8 P8;rw[P8]
   have Lo:hM (bl fr.e) o.op=none:=by
    cases pt:o.op<;>rw[pt]at nP<;>simp only[cp]at nP<;>try (cases nP;done)
    case call c=>
     simp only[hM];split at nP;cases nP;rename_i a5;first
      |rfl
      |(
       split;rename_i b Y;exact absurd Y (a5 b);rfl)
   refine ⟨v,bc,fK,_,J,rfl,?_,od ((iQ.of (Ci he)).trans (Le _ _ hC)) (λb Y a5=>absurd (by rw[Lo];trivial) a5),λι aQ a w ro next Q iM au FQ aO CS=>⟨λ_ _=>trivial,?_⟩⟩;rw[nP];exact U;rw[nP]at aO;obtain ⟨rfl,i,args',hi,av,hP⟩:=Pk (P:=P) cA (iM.ag fr.s.n) o FQ (by rw[nP];exact aO) he;have Af:fZ aq T ι (Full ι) B { fr.s with ag:=fr.s.n } w:=(iM.ag _).weaken λb i hi _=>aO b i hi;obtain ⟨f,tmps,aS9,er,aI,pn⟩:=As _ _ _ _ _ hC ι w args' i Af au hi av;rw[semAt_eq An,hP,aI];refine ⟨λh=>by simp[oF,Fence.wide]at h,?_⟩;refine RoundIn.mono (F:=oF ro) (n:=0) (P:=P) (R:=sS aq T B ι { fr.s with ag:=fr.s.n } w v bc) pn λe w' al=>?_;obtain ⟨bI,v',rfl,ad,ie⟩:=al;exact CS bI w' v' ad (ie.O0 (Af.Yw aO))
  cases E
end
section
variable {aq:Nat}{T:Types}{B:Nat}{ι bI nW:bF}{aQ BC:Nat->Prop}{s s' pF:b9}{w w' pJ:World}{P:Program}{rec:Rec}
theorem DI{b:Frame}{a:Act}{k:List Item}{cs:List Frame}{c:Code} :step P (lone (b.atR a (.code (.scope c)::k)) cs w)=.next (lone (b.atR a (.code c:: .inScope c::k)) cs w):=
 step_lone_go (by simp[stepG,stepG.exec,Frame.atR])
theorem arT{b:Frame}{a:Act}{k:List Item}{cs:List Frame}{c:Code} :step P (lone (b.atR a (.inScope c::k)) cs w)=.next (lone (b.atR a k) cs w):=
 step_lone_go (by simp[stepG,stepG.exec,Frame.atR])
theorem asX{F:Fence}{n:Nat}{Q:Exit->Act->World->Prop}{a:Act}{c:Code}(h:c.wpIn F n P (Exit.noGoto Q) a w):(Code.scope c).wpIn F n P Q a w:=by
 intro b k cs gX Y E;have aR:(lone (b.atR a (.code (.scope c)::k)) cs w).fenced P F:=fenced_calm Y E rfl;obtain ⟨e,pf,ld,a7,CI⟩:=h b (.inScope c::k) cs gX Y E;cases e with
 |normal=>exact ⟨.normal,pf,ld,a7,.head aR DI (StepsIn.trans CI (.one (fenced_calm Y E rfl) arT))⟩
 |exit id=>
  have hx:exitTo id (.inScope c::k)=exitTo id k:=by simp[exitTo]
  exact ⟨.exit id,pf,ld,a7,λk' hk=>.head aR DI (CI.1 k' (by rw[hx];exact hk)),
   λoX hk=>let ⟨k₁,J,U⟩:=CI.2 oX (by rw[hx];exact hk);⟨k₁,J,.head aR DI U⟩⟩
 |goto l=>exact a7.elim
 |ret=>exact ⟨_,pf,ld,a7,.of_steps (.one aR DI) CI⟩
 |panic re=>exact ⟨_,pf,ld,a7,.of_steps (.one aR DI) CI⟩
 |outgrown=>exact ⟨_,pf,ld,a7,.of_steps (.one aR DI) CI⟩
theorem ac4{F:Fence}{n:Nat}{Q yi:Exit->Act->World->Prop}{c:Code}(h:∀e a w,yi e a w->Q e a w):∀m a w,Code.roundsIn F n P c yi m a w->Code.roundsIn F n P c Q m a w
 |0,_,_,dE=>dE
 |m+1,a,w,dE=>wpIn_mono dE λe a w he=>by
  cases e<;>first|exact ac4 h m _ _ he|exact h _ _ _ he
def Wr(aq:Nat)(T:Types)(B:Nat)(P:Program)(fr:Fr)(o:Oper)(v:Value)(bc:b9)(t:Reach):Prop:=
 ∀(ι:bF) (aQ:Nat->Prop) (a:Act) (w:World) (ro:Option Nat) (next:Act->World->Prop) (Q:Exit->Act->World->Prop),fZ aq T ι aQ B fr.s w->pR aq ι->
  (∀x∈o.op.operands,cE ι (bl fr.e x) (a.eval x))->uh ι aQ t->
  (∀bI w' v',cE bI v v'->dr aq T B ι aQ { fr.s with ag:=fr.s.n } w bI bc w'->next (a.put o.dst v') w')->o.wpIn (oF ro) 0 P a w next Q
inductive r6(aq:Nat)(T:Types)(B:Nat)(P:Program)(ops:Array Oper):List fM->List Oper->Fr->List fM->Fr->Prop
 |nil (bO:List fM) (fr:Fr):r6 aq T B P ops bO [] fr bO fr
 |skip (bO ks:List fM) (o:Oper) (l:List Oper) (fr fK fr':Fr) (hw:jQ ops fr.e o=false) (al:put fr o.dst undef fr.s=some fK)
   (h:r6 aq T B P ops (⟨some [],some [],fr.s.n,fr.s.n⟩::bO) l fK ks fr'):r6 aq T B P ops bO (o::l) fr ks fr'
 |op (bO ks:List fM) (o:Oper) (l:List Oper) (fr fK fr':Fr) (v:Value) (bc:b9) (hw:jQ ops fr.e o=true) (al:put fr o.dst v { bc with ag:=min fr.s.ag bc.ag } =some fK)
   (aM:Wr aq T B P fr o v bc (cp (bl fr.e) o.op))
   (hk:iQ fr.s { bc with ag:=min fr.s.ag bc.ag } ∧ ∀b,b<fr.s.n-> ¬hD (writes (bl fr.e) o.op (Nat.blt bc.ag fr.s.n)) b->bc.h.get b=fr.s.h.get b)
   (h:r6 aq T B P ops (⟨cp (bl fr.e) o.op,writes (bl fr.e) o.op (Nat.blt bc.ag fr.s.n),fr.s.n,bc.n⟩::bO) l fK ks fr'):r6 aq T B P ops bO (o::l) fr ks fr'
theorem ara(cA:iF P T)(Le:w1 rec)(lN:BA aq T B P rec)(As:Oz aq T B P rec)
  (hP:∀ops aP flags l fr res,rec (.run ops aP flags l fr)=some res->l.all (qe aq)=true-> ∀rk,(aP=true->rk=flags)-> ∃bO fr',r6 aq T B P ops rk l fr bO fr'∧res=.code .normal fr'∧(aP=true->uz ops bO.reverse=true))
  {ops:Array Oper} {aP:Bool} {flags:List fM} {l:List Oper} {fr:Fr} {res:dG} (E:j4 T rec ops aP flags l fr=some res) (cK:l.all (qe aq)=true) (rk:List fM) (kc:aP=true->rk=flags):
  ∃bO fr',r6 aq T B P ops rk l fr bO fr'∧res=.code .normal fr'∧(aP=true->uz ops bO.reverse=true):=by
 unfold j4 at E;split at E
 ·split at E;simp at E;exact ⟨rk,fr,.nil _ _,E.symm,λh=>by cases h⟩;split at E;rename_i ai;simp at E;exact ⟨rk,fr,.nil _ _,E.symm,λ_=>by rw[kc rfl];exact ai⟩;cases E
 ·rename_i o l;simp only[gS,dU]at cK;split at E
  ·rename_i hw;unfold done at E;split at E;cases E;rename_i fK al;obtain ⟨bO,fr',J,U,aj⟩:=hP _ _ _ _ _ _ E cK.2 (⟨some [],some [],fr.s.n,fr.s.n⟩::rk) (λh=>by subst h;rw[kc rfl];rfl);refine ⟨bO,fr',.skip _ _ o l fr fK fr' hw ?_ J,U,aj⟩;have:({ fr.s with ag:=min fr.s.ag fr.s.ag } :b9)=fr.s:=by simp
   rw[this]at al;exact al
  rename_i hw;obtain ⟨v,bc,fK,bO,J,rfl,U,hk,aj⟩:=ap8 (P:=P) cA Le lN As cK.1 E;obtain ⟨bO,fr',aB,aT,bp⟩:=hP _ _ _ _ _ _ U cK.2 (⟨cp (bl fr.e) o.op,writes (bl fr.e) o.op (Nat.blt bc.ag fr.s.n),fr.s.n,bc.n⟩::rk) (λh=>by subst h;rw[kc rfl];rfl);exact ⟨bO,fr',.op _ _ o l fr fK fr' v bc hw J aj hk aB,aT,bp⟩
theorem Tv{ops:Array Oper}{e:aJ Value}{tmps:Array Value}{o:Oper}(h:∀g d,o.guard=some g->(ops[g.1]?).bind (·.dst)=some d->cE ι (bl e (.tmp d)) (tmps.getD d undef)):
  Region.wanted o (yielded ops tmps)=jQ ops e o:=by
 unfold Region.wanted jQ;cases au:o.guard with
 |none=>rfl
 |some g=>
  obtain ⟨j,want⟩:=g;simp only[yielded];cases ai:(ops[j]?).bind (·.dst) with
  |none=>simp
  |some d=>
   have eb:=h _ d au ai;simp only[Option.bind_some];unfold bl at eb;rw[Hh]at eb;cases he:e.get d with
   |none=>
    simp only[he]at eb;cases aO:tmps[d]? with
    |none=>simp
    |some v=>
     rw[aO]at eb;simp at eb;unfold undef at eb;cases eb;simp
   |some u=>
    simp only[he]at eb;cases aO:tmps[d]? with
    |none=>
     rw[aO]at eb;simp at eb;unfold undef at eb;generalize hx:Value.tuple #[]=x at eb;cases eb<;>simp_all
    |some v=>
     rw[aO]at eb;simp at eb;cases eb<;>simp
theorem acD{fr fK:Fr}{d:Option Nat}{v v':Value}{bc:b9}{a:Act}(al:put fr d v bc=some fK)(n9:pP ι fr.e fr.bG a.tmps)(hm:Marks ι fr.ms a.defers)(ad:cE ι v v')(ae:fZ aq T ι (Full ι) B bc w)(au:pR aq ι):
  fK.s=bc∧kD aq T B ι fK (a.put d v') w:=by
 unfold put at al;split at al;simp at al;subst al;exact ⟨rfl,ae,au,n9,hm⟩;split at al;rename_i d ai;rw[gy]at ai;simp at al;subst al;exact ⟨rfl,ae,au,n9.set ai ad,hm⟩;cases al
theorem asi(ι:bF)(t:Reach):uh ι (Full ι) t:=by
 cases t<;>simp only[uh];exact λb i hi=>⟨i,hi⟩;exact λb i _ hi=>⟨i,hi⟩
theorem r6.order{ops:Array Oper}{bO ks:List fM}{l:List Oper}{fr fr':Fr}(h:r6 aq T B P ops bO l fr ks fr')(cK:l.all (qe aq)=true):∀k,l=ops.toList.drop k->
  ∀(ι:bF) (a:Act) (w:World) (ro:Option Nat) (Q:Exit->Act->World->Prop),kD aq T B ι fr a w->
   (∀bI a8 w',dr aq T B ι (Full ι) fr.s w bI fr'.s w'->kD aq T B bI fr' a8 w'->Q .normal a8 w')->wpOpsIn (oF ro) 0 P ops Q (List.range' k (ops.size - k)) a w:=by
 induction h with
 |nil bO fr=>
  intro k hk ι a w ro Q b5 hK;have:ops.size - k=0:=by
   have:=congrArg List.length hk;simpa using this.symm
  rw[this];exact hK ι a w (dr.refl b5.iC rfl) b5
 |skip bO ks o l fr fK fr' hw al _ a3=>
  intro k hk ι a w ro Q b5 hK;simp only[gS,dU]at cK;have b6:k<ops.size:=by
   have:=congrArg List.length hk;simp at this;omega
  have k2:ops[k]? =some o:=by
   have:=drop_cons hk.symm;simpa using this
  have Qf:l=ops.toList.drop (k+1):=by
   rw[<-vk,<-hk];rfl
  rw[show ops.size - k=(ops.size - (k+1))+1 by omega,Hj];have F5:=Tv (ι:=ι) (ops:=ops) (e:=fr.e) (tmps:=a.tmps) (o:=o) λg d _ _=>b5.env.rel d;simp only[wpOpsIn,k2,F5,hw,vj,if_false];obtain ⟨ae,yM⟩:=acD al b5.env b5.marks (cE.undef ι) b5.iC b5.td;exact ⟨λ_ _=>trivial,a3 cK.2 (k+1) Qf ι _ w ro Q yM λbI a8 w' au aM=>hK bI a8 w' (ae ▸ au) aM⟩
 |op bO ks o l fr fK fr' v bc hw al aM _ _ a3=>
  intro k hk ι a w ro Q b5 hK;simp only[gS,dU]at cK;have b6:k<ops.size:=by
   have:=congrArg List.length hk;simp at this;omega
  have k2:ops[k]? =some o:=by
   have:=drop_cons hk.symm;simpa using this
  have Qf:l=ops.toList.drop (k+1):=by
   rw[<-vk,<-hk];rfl
  rw[show ops.size - k=(ops.size - (k+1))+1 by omega,Hj];have F5:=Tv (ι:=ι) (ops:=ops) (e:=fr.e) (tmps:=a.tmps) (o:=o) λg d _ _=>b5.env.rel d;simp only[wpOpsIn,k2,F5,hw,if_true];refine aM ι (Full ι) a w ro _ Q b5.iC b5.td (λx hx=>b5.env.bl b5.td ?_) ?_ λbI w' v' ad ie=>?_;have:=cK.1;simp only[qe,fj]at this;exact this x (by simpa using hx);exact asi _ _;have tm:=ie.asW (cg _);obtain ⟨ae,yM⟩:=acD al (b5.env.mono tm.le) (b5.marks.mono tm.le) ad tm.full (b5.td.mono tm.le);exact a3 cK.2 (k+1) Qf bI _ w' ro Q yM λnW a8 pJ au aM=>hK nW a8 pJ (tm.seq (ae ▸ au)) aM
end
section
variable {aq:Nat}{T:Types}{B:Nat}{ι lf bI nW:bF}{s bc s' pF:b9}{w ld w' pJ:World}{P:Program}{rec:Rec}{O:bo}{G:aJ Func}
def BB(aq:Nat)(T:Types)(B:Nat)(P:Program)(rec:Rec):Prop:= ∀c ro fr x fr',rec (.code c ro fr)=some (.code x fr')->codeOk aq c=true->
 ∀(ι:bF) a w fz,kD aq T B ι fr a w->w2 ι ro fz->c.wpIn (oF fz) 0 P (nB aq T B ι fr.s w x fr') a w
def On(aq:Nat)(T:Types)(B:Nat)(P:Program)(rec:Rec)(n:Nat):Prop:= ∀c ro fr x fr',rec (.code (.loop c) ro fr)=some (.code x fr')->codeOk aq c=true->
 ∀(ι:bF) a w fz,kD aq T B ι fr a w->w2 ι ro fz->Code.roundsIn (oF fz) 0 P c (nB aq T B ι fr.s w x fr') n a w
def Wz(aq:Nat)(T:Types)(B:Nat)(P:Program)(rec:Rec):Prop:=
 ∀ops aP flags l fr res,rec (.run ops aP flags l fr)=some res->l.all (qe aq)=true-> ∀rk,(aP=true->rk=flags)-> ∃bO fr',r6 aq T B P ops rk l fr bO fr'∧res=.code .normal fr'∧(aP=true->uz ops bO.reverse=true)
def No(aq:Nat)(T:Types)(B:Nat)(P:Program):Prop:=
 ∀ops bO fr fr',r6 aq T B P ops [] ops.toList fr bO fr'->uz ops bO.reverse=true->ops.toList.all (qe aq)=true->SI ops=true-> ∀(ι:bF) (a:Act) (w:World) (ro:Option Nat) (id:Nat) (Q:Exit->Act->World->Prop),
  kD aq T B ι fr a w->(∀bI a8 w',dr aq T B ι (Full ι) fr.s w bI fr'.s w'->kD aq T B bI fr' a8 w'->Q .normal a8 w')->(Code.region id ops true).wpIn (oF ro) 0 P Q a w
theorem nB.seq{x:r7}{fr':Fr}{e:Exit}{a8:Act}(h:dr aq T B ι (Full ι) s w lf bc ld)(al:nB aq T B lf bc ld x fr' e a8 w'):nB aq T B ι s w x fr' e a8 w':=by
 obtain ⟨J,bI,U,aj⟩:=al;exact ⟨J,bI,h.seq U,aj⟩
theorem nB.here{x:r7}{fr:Fr}{a:Act}(h:kD aq T B ι fr a w):nB aq T B ι fr.s w x fr (Cj x) a w:=
 ⟨rfl,ι,dr.refl h.iC rfl,h⟩
def Dx(tmps:Array Value):ResultVar->Sem Value
 |.tmp t=>pure (tmps.getD t undef)
 |.cell a t=>do loadVar t (<-asAddr (tmps.getD a undef))
theorem aqP(fn:Func)(tmps:Array Value):results fn tmps=(do
  let vs <-fn.results.mapM (Dx tmps)
  pure (if h:vs.size=1 then vs[0] else .tuple vs)):=by
 rfl
theorem SN(cA:iF P T){e:aJ Value}{bG:Nat}{tmps:Array Value}(iM:fZ aq T ι (Full ι) B s w)(n9:pP ι e bG tmps):∀ {rs:List ResultVar} {l:List Value} {fr:Fr},fr.e=e->fr.s=s->
  lB T rs fr=some l-> ∃l',(rs.mapM (Dx tmps)).run P w=.ok l' w∧dJ ι l l'
 |[],l,fr,he,ae,h=>by simp[lB]at h;subst h;exact ⟨[],by simp,.nil⟩
 |.tmp t::rs,l,fr,he,ae,h=>by
  simp only[lB]at h;split at h;rename_i Df J;simp at h;subst h;obtain ⟨l',U,aj⟩:=SN cA iM n9 he ae J;have aR:(Dx tmps (.tmp t)).run P w=.ok (tmps.getD t undef) w:=rfl;exact ⟨tmps.getD t undef::l',by simp only[List.mapM_cons,Sem.run_bind,aR,Result.andThen_ok,U,Sem.run_pure],.cons _ _ _ _ (he ▸ n9.rel t) aj⟩;cases h
 |.cell a t::rs,l,fr,he,ae,h=>by
  simp only[lB]at h;split at h;rename_i ti p aO al;split at h;rename_i v ad;split at h;rename_i Df J;simp at h;subst h;obtain ⟨l',U,aj⟩:=SN cA iM n9 he ae J;have eb:=n9.rel a;rw[<-he,al]at eb;have Af:Full ι p.block:=by
   generalize tmps.getD a undef=q at eb;cases eb with
   |ptr b o i hi=>exact ⟨i,hi⟩
  obtain ⟨v',aH,bD⟩:=ab9 (P:=P) cA iM aO eb Af (ae ▸ ad);refine ⟨v'::l',?_,.cons _ _ _ _ bD aj⟩;have aR:(Dx tmps (.cell a t)).run P w=.ok v' w:=by
   unfold Dx;obtain ⟨q,a7⟩:∃q,tmps.getD a undef=q:=⟨_,rfl⟩;rw[a7]at eb aH;cases eb with
   |ptr b o i hi=>
    simp only[Instr.loadAt,Instr.sureAddr,Sem.run_bind,Sem.run_pure,Result.andThen_ok]at aH;simp only[asAddr,a7,Sem.run_bind,Sem.run_pure,Result.andThen_ok,aH]
  simp only[List.mapM_cons,Sem.run_bind,aR,Result.andThen_ok,U,Sem.run_pure];cases h;cases h;cases h
theorem asp{l l':List Value}(h:dJ ι l l'):cE ι (pI l) (if h:l'.toArray.size=1 then l'.toArray[0] else .tuple l'.toArray):=by
 cases h with
 |nil=>exact .tuple [] [] .nil
 |cons v v' l l' h Z=>
  cases Z with
  |nil=>exact h
  |cons u kS l l' hu Z=>
   have: ¬(v'::kS::l').toArray.size=1:=by simp
   rw[dif_neg this];exact .tuple _ _ (.cons _ _ _ _ h (.cons _ _ _ _ hu Z))
theorem leaves(cA:iF P T){fn:Func}{e:aJ Value}{bG:Nat}{tmps:Array Value} :∀ {ms:List Nat} {dg:List Deferred} {ι:bF} {s aK:b9} {w:World} {fr:Fr} {l:List Value},fZ aq T ι (Full ι) B s w->pP ι e bG tmps->
  Marks ι ms dg->shut ms s=some aK->fr.e=e->fr.s=aK->lB T fn.results.toList fr=some l-> ∀(R:Ending->World->Prop),
  (∀v' w',cE ι (pI l) v'->dr aq T B ι (Full ι) s w ι aK w'->R (.returned v') w')->LeavesInM Fence.wide 0 P fn tmps R dg .returning w
 |[],[],ι,s,aK,w,fr,l,iM,n9,_,ae,he,aM,E,R,pn=>by
  simp[shut]at ae;subst ae;obtain ⟨l',J,U⟩:=SN (P:=P) cA iM n9 he aM E;have hm:(fn.results.mapM (Dx tmps)).run P w=.ok l'.toArray w:=by
   rw[Array.mapM_eq_mapM_toList];simp[J]
  have iL:(results fn tmps).run P w=.ok (if h:l'.toArray.size=1 then l'.toArray[0] else .tuple l'.toArray) w:=by
   rw[aqP];simp only[Sem.run_bind,hm,Result.andThen_ok,Sem.run_pure]
  exact ⟨_,iL,pn _ w (asp U) (dr.refl iM rfl)⟩
 |[],_::_,_,_,_,_,_,_,_,_,h,_,_,_,_,_,_=>h.elim
 |_::_,[],_,_,_,_,_,_,_,_,h,_,_,_,_,_,_=>h.elim
 |b::ms,d::dg,ι,s,aK,w,fr,l,iM,n9,⟨⟨i,hi,ai⟩,hm⟩,ae,he,aM,E,R,pn=>by
  subst ai;simp only[shut]at ae;split at ae;rename_i Y;have aE:=iM.obj b _ i ⟨i,hi⟩ Y hi;have b6:=(aE.lt rfl).2;have au:dr aq T B ι (Full ι) s w ι { s with h:=s.h.set b .dead,ag:=min s.ag b } (w.putObj i.r (.deferred none)):=
   dr.write iM ⟨i,hi⟩ Y hi rfl (.inr rfl) (Sq _ _ _) (λr E=>World.putObj_heap_other E) trivial
  refine ⟨by simp,.inl ⟨i.r,_,rfl,run_takeDeferred aE.1,?_⟩⟩;exact leaves cA au.full n9 hm ae he aM E R λv' w' ad ie=>pn v' w' ad (au.seq ie);cases ae
end
section
variable {aq:Nat}{T:Types}{B:Nat}{ι lf bI nW:bF}{s bc s' pF:b9}{w ld w' pJ:World}{P:Program}{rec:Rec}{O:bo}{G:aJ Func}
theorem adj{bG:Nat} :∀ {lE:List Nat} {vs rZ:List Value} {e aZ:aJ Value} {tmps:Array Value},qP lE vs bG e=some aZ->pP ι e bG tmps->dJ ι vs rZ->
  lE.length=rZ.length∧pP ι aZ bG ((lE.zip rZ).foldl (λtmps x=>tmps.setIfInBounds x.1 x.2) tmps)
 |[],[],rZ,e,aZ,tmps,h,he,ad=>by
  cases ad;simp[qP]at h;subst h;exact ⟨rfl,he⟩
 |t::lE,v::vs,rZ,e,aZ,tmps,h,he,ad=>by
  cases ad with
  |cons _ v' _ rZ ad xB=>
   simp only[qP]at h;split at h;rename_i b6;rw[gy]at b6;obtain ⟨J,U⟩:=adj h (he.set b6 ad) xB;exact ⟨by simp[J],by simpa using U⟩;cases h
 |[],_::_,_,_,_,_,h,_,_=>by simp[qP]at h
 |_::_,[],_,_,_,_,h,_,_=>by simp[qP]at h
theorem dr.kR(h:fZ aq T ι (Full ι) B s w){l:Nat}{r r':yk}{i:iP}(Z:s.h.get l=some (.loop r))(hi:ι l=some i){cu:Loop}
  (E:Eg aq ι B r' i (w.putObj i.r (.loop cu))):dr aq T B ι (Full ι) s w ι (ah.kR s l r') (w.putObj i.r (.loop cu)):=
 dr.write h ⟨i,hi⟩ Z hi rfl (.inl rfl) (Sq _ _ _) (λ_ E=>World.putObj_heap_other E) E
theorem Eg.To{r:yk}{i:iP}{L:Loop}(h:Eg aq ι B r i w)(gn:w.heap[i.r]? =some (.loop L))(st:LoopState)(mw:Option Code)(al:mw=none∨mw=some .ret∨ ∃id,mw=some (.exit id)):
  Eg aq ι B { r with state:=st,pending:=mw } i (w.putObj i.r (.loop { L with state:=st,pending:=mw })):=by
 obtain ⟨ati,J,U,aj,aH,bD,cF,dV,j,fL,jH⟩:=h.there;rw[gn]at J;cases J;have b6:i.r<w.heap.size:=(o9.1 gn).1;exact ⟨⟨_,World.putObj_heap_same b6,rfl,rfl,aH,bD,cF,dV,j,fL,jH⟩,h.ok,al,h.nT⟩
theorem aqY(h1:BB aq T B P rec):∀l args s v s',mT rec l args s=some (.val v s')-> ∀(ι:bF) w (args':Array Value) i,fZ aq T ι (Full ι) B s w->pR aq ι->
  ι l=some i->dJ ι args args'.toList-> ∃f tmps aS9 er,(Instr.yield i.r args').run P w=.ok (.round i.r f tmps aS9 er) w∧RoundIn Fence.wide 0 P i.r f tmps aS9 er w (sS aq T B ι s w v s'):=by
 intro l args s v s' h ι w args' i iM au hi av;unfold mT at h;split at h
 ·rename_i r Z;split at h
  ·cases h
  ·rename_i e he;split at h
   ·rename_i fr b5;have aE:=iM.obj l _ i ⟨i,hi⟩ Z hi;obtain ⟨L,J,U,aj,aH,bD,cF,dV,j,fL,jH⟩:=aE.there;obtain ⟨aB,aT⟩:=adj he aH av;rw[<-bD]at aB aT;have ae:args'.size=L.params.size:=by simp at aB;exact aB.symm
    refine ⟨_,_,_,_,run_yield J ae,roundIn_of_wpIn trivial ?_⟩;have Qp:(L.params.zip args').foldl (λtmps x=>tmps.setIfInBounds x.1 x.2) L.tmps=(L.params.toList.zip args'.toList).foldl (λtmps x=>tmps.setIfInBounds x.1 x.2) L.tmps:=by
     rw[<-Array.foldl_toList,Array.toList_zip]
    rw[cF];have amf:kD aq T B ι { e:=e,bG:=r.bG,s:=s,ms:=[] } { tmps:=(L.params.zip args').foldl (λtmps x=>tmps.setIfInBounds x.1 x.2) L.tmps,defers:=[] } w:=
     ⟨iM,au,by rw[Qp];exact aT,trivial⟩
    have aa:=h1 _ _ _ _ _ b5 aE.ok.1 ι _ w (some i.r) amf ⟨i,hi,rfl⟩;refine wpIn_mono aa λxg pf ld al=>?_;obtain ⟨rfl,lf,uK,tl⟩:=al;simp only[Cj,Exit.then];unfold vb at h;split at h
    ·rename_i pE Z2;split at h
     ·rename_i jx;split at h
      ·rename_i x gk alN;have tq:=uK.le _ _ hi;have yV:=tl.iC.obj l _ i ⟨i,tq⟩ Z2 tq;obtain ⟨Je,cL,cS,ds,gw⟩:=yV.there;have am8:Je.state=.ready:=by rw[cS,jx]
       refine ⟨_,run_beginRound cL am8,?_⟩;have F3:=yV.To cL .busy pE.pending yV.wc;have nd:=dr.kR tl.iC Z2 tq F3;have aC:({ Je with state:=.busy,pending:=pE.pending } :Loop)= { Je with state:=.busy } :=by rw[<-ds]
       rw[aC]at nd;have vT:kD aq T B lf { fr with s:=ah.kR fr.s l { pE with state:=.busy } } pf (ld.putObj i.r (.loop { Je with state:=.busy })):=
        ⟨nd.full,tl.td,tl.env,tl.marks⟩
       rw[dV];have j0:=h1 _ _ _ _ _ alN aE.ok.2 lf pf _ (some i.r) vT ⟨i,tq,rfl⟩;refine wpIn_mono j0 λoR atl aek al=>?_;obtain ⟨rfl,tW,ZM,KQ⟩:=al;unfold endRound at h;split at h
       ·rename_i ard Z3;have Ak:=ZM.le _ _ tq;have K9:=KQ.iC.obj l _ i ⟨i,Ak⟩ Z3 Ak;obtain ⟨agV,de,ej,dy,jc⟩:=K9.there;have fin:∀(st:LoopState) (mw:Option Code),(mw=none∨mw=some .ret∨ ∃id,mw=some (.exit id))->
          dr aq T B ι (Full ι) s w tW (ah.kR gk.s l { ard with state:=st,pending:=mw }) (aek.putObj i.r (.loop { agV with state:=st,pending:=mw })):=λst mw sq=>
         ((uK.seq nd).seq ZM).seq (dr.kR KQ.iC Z3 Ak (K9.To de st mw sq))
        split at h;simp at h;obtain ⟨rfl,rfl⟩:=h;exact ⟨_,_,run_endRound none de,tW,_,rfl,.bool _,fin .ready none (.inl rfl)⟩;simp at h;obtain ⟨rfl,rfl⟩:=h;exact ⟨_,_,run_endRound (some .ret) de,tW,_,rfl,.bool _,fin .done (some .ret) (.inr (.inl rfl))⟩;rename_i id;simp at h;obtain ⟨rfl,rfl⟩:=h;exact ⟨_,_,run_endRound (some (.exit id)) de,tW,_,rfl,.bool _,fin .done (some (.exit id)) (.inr (.inr ⟨id,rfl⟩))⟩
       cases h
      cases h
     cases h
    cases h
   cases h
 cases h
end
section
variable {aq:Nat}{T:Types}{B:Nat}{ι lf bI nW:bF}{s bc s' pF:b9}{w gP ld w' pJ:World}{P:Program}{rec:Rec}{O:bo}{G:aJ Func}
theorem WS(w:World)(o:Obj):(w.alloc o).heap[w.heap.size]? =some o:=World.alloc_heap_new w o
theorem acT(h1:BB aq T B P rec)(lN:BA aq T B P rec){ro fz:Option Nat}{fr fr':Fr}{x:r7}{g:Operand}{ps:Array Tmp}{assign body:Code}{d:Nat}{ms:List Nat}
  (au:tM aq g=true) (av:codeOk aq assign=true) (Y:codeOk aq body=true) (E:lY rec ro fr g ps assign body d ms s=some (.code x fr'))
  {a:Act} {mark:List Deferred} {j:iP} (b5:kD aq T B ι fr a w) (ie:dr aq T B ι (Full ι) fr.s w lf s gP) (gX:w2 ι ro fz) (aG:lf d=some j) (hm:Marks lf ms (mark++a.defers))
  (al7:∀fn,(Instr.enterLoop fn a.tmps ps assign body fz).run P w=.ok (gP.heap.size,mark) (gP.alloc (.loop { state:=.ready,pending:=none,fn,tmps:=a.tmps,params:=ps,assign,body,defers:=j.r }))):
  (Code.rangeFunc g ps assign body).wpIn (oF fz) 0 P (nB aq T B ι fr.s w x fr') a w:=by
 unfold lY at E;split at E;rename_i f first captured iz
 have Q1:=b5.env.bl b5.td au;rw[iz]at Q1;obtain ⟨q,a7⟩:∃q,a.eval g=q:=⟨_,rfl⟩;rw[a7]at Q1;split at E;rename_i v aK hC;refine wpIn_rangeFunc λfn _=>?_;cases Q1 with
 |func _ bk abm cn LL fQ bM=>
  have hold:ι.le lf:=ie.le;obtain ⟨wl,tw⟩:∃x,x=gP.alloc (.loop { state:=.ready,pending:=none,fn,tmps:=a.tmps,params:=ps,assign,body,defers:=j.r }):=⟨_,rfl⟩;have ZD:=al7 fn;rw[<-tw]at ZD;have Qs:=dr.new (fv:=by rw[tw];exact ⟨rfl,rfl⟩) (w':=wl) ie.full
   (.loop { state:=.ready,pending:=none,fn:=0,e:=fr.e,bG:=fr.bG,params:=ps.toList,assign:=assign,body:=body,defers:=d })
   (.loop { state:=.ready,pending:=none,fn,tmps:=a.tmps,params:=ps,assign,body,defers:=j.r }) 0 (by rw[tw];rfl) (by
    have hle:=bF.Dd ie.full.lt ⟨gP.heap.size,0,0⟩;rw[tw];exact ⟨⟨_,WS _ _,rfl,rfl,b5.env.mono (bF.le_trans hold hle),rfl,rfl,rfl,j,hle _ _ aG,rfl⟩,⟨av,Y⟩,.inl rfl,ie.full.base⟩)
  have hle:=Qs.le;have FO:=bF.add_same lf s.n ⟨gP.heap.size,0,0⟩;obtain ⟨W2,Zn⟩:∃x,x=(⟨abm⟩:Array Value)++ #[Value.func (.yield gP.heap.size) #[] #[]]++(⟨LL⟩:Array Value):=⟨_,rfl⟩;have mh:dJ (lf.add s.n ⟨gP.heap.size,0,0⟩) (bk++(.func (.yield s.n) #[] #[]::cn)) W2.toList:=by
   have:=(fQ.mono (bF.le_trans hold hle)).append (dJ.cons _ _ _ _ (cE.yield s.n _ FO) (bM.mono (bF.le_trans hold hle)));rw[Zn];simpa using this
  obtain ⟨hB,j0⟩:=lN _ _ _ _ _ hC _ _ _ Qs.full (b5.td.mono (bF.le_trans hold hle)) mh;refine ⟨gP.heap.size,mark,wl, { target:=.fn (.func f) ⟨LL⟩,args:=(⟨abm⟩:Array Value)++ #[Value.func (.yield gP.heap.size) #[] #[]] },wl,f,W2,wl,ZD,?_,λ_ _=>trivial,?_,λh=>by simp[oF,Fence.wide]at h,?_⟩;have ph:∀v,a.eval (.const v)=v:=λ_=>rfl;simp[resolve,a7,Deferred.ofValue,ph];simp only[invoke];rw[Zn];exact hB.run _ _;refine CallsIn.mono (F:=oF fz) (n:=0) (P:=P) (R:=sS aq T B (lf.add s.n ⟨gP.heap.size,0,0⟩) _ _ v aK) j0 λe ael al=>?_;obtain ⟨tW,v',rfl,ad,FB⟩:=al;simp only[rangePost];split at E;rename_i r Z;have Ak:=FB.le _ _ FO;have aE:=FB.full.obj _ _ _ ⟨_,Ak⟩ Z Ak;obtain ⟨L,cL,cS,ds,gw⟩:=aE.there;have KT:=((ie.seq Qs).seq FB);have K3:Marks tW ms (mark++a.defers):=hm.mono (bF.le_trans hle FB.le);split at E;cases E;rename_i jx;have h8:L.state≠ .busy:=by rw[cS];exact jx
  have nd:=dr.kR FB.full Z Ak (aE.To cL .exhausted r.pending aE.wc);have aC:({ L with state:=.exhausted,pending:=r.pending } :Loop)= { L with state:=.exhausted } :=by rw[<-ds]
  rw[aC]at nd;obtain ⟨TB,aaC⟩:∃x,x=ael.putObj gP.heap.size (.loop { L with state:=.exhausted }):=⟨_,rfl⟩;have nd:dr aq T B tW (Full tW) aK ael tW (ah.kR aK s.n { r with state:=.exhausted }) TB:=by rw[aaC];exact nd
  have CN:=KT.seq nd;have ZH:kD aq T B tW { fr with s:=ah.kR aK s.n { r with state:=.exhausted },ms:=ms } { a with defers:=mark++a.defers } TB:=
   ⟨nd.full,b5.td.mono KT.le,b5.env.mono KT.le,K3⟩
  refine ⟨L.pending,TB,by rw[aaC];exact run_endLoop cL h8,?_⟩;split at E;rename_i sq;simp at E;obtain ⟨rfl,rfl⟩:=E;have:L.pending=none:=by rw[ds,sq]
  rw[this];exact ⟨rfl,tW,CN,ZH⟩;rename_i c sq;have QT:L.pending=some c:=by rw[ds,sq]
  rw[QT];have P9:codeOk aq c=true:=by
   rcases aE.wc with h|h|⟨id,h⟩
   rw[sq]at h;cases h;rw[sq]at h;cases h;rfl;rw[sq]at h;cases h;rfl
  have:=h1 _ _ _ _ _ E P9 tW _ _ fz ZH (gX.mono KT.le);exact wpIn_mono this λe a8 w' al=>nB.seq CN al;cases E
 cases E;cases E
theorem aq3{l:Nat}{r:Loop}(h:w.heap[l]? =some (.loop r))(fn:FuncId)(tmps:Array Value)(ps:Array Tmp)(assign body:Code):
  (Instr.enterLoop fn tmps ps assign body (some l)).run P w=
   .ok (w.heap.size,[]) (w.alloc (.loop { state:=.ready,pending:=none,fn,tmps,params:=ps,assign,body,defers:=r.defers })):=by
 unfold Instr.enterLoop;simp only[Sem.run_bind,run_getLoop h,run_newObj_alloc,Result.andThen,Sem.run_pure]
theorem aj9(h1:BB aq T B P rec)(lN:BA aq T B P rec){ro fz:Option Nat}{fr fr':Fr}{x:r7}{g:Operand}{ps:Array Tmp}{assign body:Code}
  (au:tM aq g=true) (av:codeOk aq assign=true) (Y:codeOk aq body=true) (E:sJ rec ro fr g ps assign body=some (.code x fr'))
  {a:Act} (b5:kD aq T B ι fr a w) (gX:w2 ι ro fz):(Code.rangeFunc g ps assign body).wpIn (oF fz) 0 P (nB aq T B ι fr.s w x fr') a w:=by
 unfold sJ at E;split at E;rename_i l;cases fz with
 |none=>exact gX.elim
 |some r'=>
  obtain ⟨i,hi,rfl⟩:=gX;split at E;rename_i r Z;have aE:=b5.iC.obj l _ i ⟨i,hi⟩ Z hi;obtain ⟨L,J,U,aj,aH,bD,cF,dV,j,fL,jH⟩:=aE.there;refine acT h1 lN (mark:=[]) au av Y E b5 (dr.refl b5.iC rfl) ⟨i,hi,rfl⟩ fL b5.marks λfn=>?_;rw[aq3 J,jH];cases E
 cases fz with
 |some r'=>exact gX.elim
 |none=>
  have FO:=dr.new (w':=w.alloc (.deferred (some []))) b5.iC .defs (.deferred (some [])) 0 rfl ⟨WS _ _,b5.iC.base⟩;refine acT h1 lN (mark:=[{ target:=.collected w.heap.size,args:= #[] }]) au av Y E b5 FO trivial (bF.add_same _ _ _)
   ⟨⟨_,bF.add_same _ _ _,rfl⟩,b5.marks.mono FO.le⟩ λfn=>?_
  rw[run_enterLoop_outer];simp
theorem aiX(cA:iF P T)(CL:No aq T B P){n:Nat}(h1:BB aq T B P rec)(amC:On aq T B P rec n)(hP:Wz aq T B P rec)(lN:BA aq T B P rec):
  On aq T B P (λt=>match t with
   |.code c ro fr=>mS rec c ro fr
   |_=>none) (n+1)∧(∀c ro fr x fr',mS rec c ro fr=some (.code x fr')->codeOk aq c=true->
   ∀(ι:bF) a w fz,kD aq T B ι fr a w->w2 ι ro fz->c.wpIn (oF fz) 0 P (nB aq T B ι fr.s w x fr') a w):=by
 have Z1:∀c ro fr x fr',o4 rec ro fr c=some (.code x fr')->codeOk aq c=true->
   ∀(ι:bF) a w fz,kD aq T B ι fr a w->w2 ι ro fz->Code.roundsIn (oF fz) 0 P c (nB aq T B ι fr.s w x fr') (n+1) a w:=by
  intro c ro fr x fr' h cK ι a w fz b5 gX;unfold o4 at h;split at h;rename_i fK J;refine wpIn_mono (h1 _ _ _ _ _ J cK ι a w fz b5 gX) λe pf ld al=>?_;obtain ⟨rfl,lf,uK,tl⟩:=al;simp only[Cj,Exit.then];exact ac4 (λe a w al=>nB.seq uK al) n _ _ (amC _ _ _ _ _ h cK lf pf ld fz tl (gX.mono uK.le));rename_i ey;have hx:x≠ .normal:=λe=>by subst e;exact ey _ h
  refine wpIn_mono (h1 _ _ _ _ _ h cK ι a w fz b5 gX) λe pf ld al=>?_;have:=al.1;cases x with
  |normal=>exact absurd rfl hx
  |exit id=>subst this;exact al
  |ret=>subst this;exact al
 refine ⟨λc ro fr x fr' h cK=>Z1 c ro fr x fr' h cK,λc ro fr x fr' h cK ι a w fz b5 gX=>?_⟩;cases c<;>simp only[mS]at h<;>try (cases h;done)
 case skip=>simp at h;obtain ⟨rfl,rfl⟩:=h;exact wpIn_skip (nB.here (x:=.normal) b5)
 case label l=>simp at h;obtain ⟨rfl,rfl⟩:=h;exact wpIn_label (nB.here (x:=.normal) b5)
 case ret=>simp at h;obtain ⟨rfl,rfl⟩:=h;exact wpIn_ret (nB.here (x:=.ret) b5)
 case exit id=>simp at h;obtain ⟨rfl,rfl⟩:=h;exact wpIn_exit (nB.here (x:=.exit id) b5)
 case region id ops aP=>
  simp only[codeOk,dU]at cK;obtain ⟨cK,FU⟩:=cK;obtain ⟨bO,fK,J,U,aj⟩:=hP _ _ _ _ _ _ h cK [] (λ_=>rfl);cases U;cases aP with
  |false=>
   refine wpIn_region ?_;have:=J.order cK 0 (by simp) ι a w fz (nB aq T B ι fr.s w .normal fr') b5 λbI a8 w' au aM=>⟨rfl,bI,au,aM⟩;rw[List.range_eq_range'];simpa using this
  |true=>exact CL _ _ _ _ J (aj rfl) cK (by simpa using FU) ι a w fz id _ b5 λbI a8 w' au aM=>⟨rfl,bI,au,aM⟩
 case seq c₁ c₂=>
  simp only[codeOk,dU]at cK;unfold pG at h;refine wpIn_seq ?_;split at h;rename_i fK J;refine wpIn_mono (h1 _ _ _ _ _ J cK.1 ι a w fz b5 gX) λe pf ld al=>?_;obtain ⟨rfl,lf,uK,tl⟩:=al;simp only[Cj,Exit.then];exact wpIn_mono (h1 _ _ _ _ _ h cK.2 lf pf ld fz tl (gX.mono uK.le)) λe a w al=>nB.seq uK al;rename_i ey;have hx:x≠ .normal:=λe=>by subst e;exact ey _ h
  refine wpIn_mono (h1 _ _ _ _ _ h cK.1 ι a w fz b5 gX) λe pf ld al=>?_;have:=al.1;cases x with
  |normal=>exact absurd rfl hx
  |exit id=>subst this;exact al
  |ret=>subst this;exact al
 case cond c c₁ c₂=>
  simp only[codeOk,dU]at cK;have aa:=b5.env.bl b5.td cK.1.1;unfold qk at h;split at h;rename_i e;rw[e]at aa;obtain ⟨q,a7⟩:∃q,a.eval c=q:=⟨_,rfl⟩;rw[a7]at aa;cases aa;exact wpIn_cond_true a7 (h1 _ _ _ _ _ h cK.1.2 ι a w fz b5 gX);rename_i e;rw[e]at aa;obtain ⟨q,a7⟩:∃q,a.eval c=q:=⟨_,rfl⟩;rw[a7]at aa;cases aa;exact wpIn_cond_false a7 (h1 _ _ _ _ _ h cK.2 ι a w fz b5 gX);cases h
 case block id c=>
  simp only[codeOk]at cK;unfold qj at h;refine wpIn_block ?_;split at h;rename_i j fK J;refine wpIn_mono (h1 _ _ _ _ _ J cK ι a w fz b5 gX) λe pf ld al=>?_;obtain ⟨rfl,lf,uK,tl⟩:=al;simp only[Cj,Exit.inBlock];split at h;rename_i he;have he:=kj he;simp at h;obtain ⟨rfl,rfl⟩:=h;rw[if_pos he];exact ⟨rfl,lf,uK,tl⟩;rename_i he;simp at h;obtain ⟨rfl,rfl⟩:=h;have:j≠id:=λe=>by subst e;simp at he
  rw[if_neg this];exact ⟨rfl,lf,uK,tl⟩;rename_i ey;refine wpIn_mono (h1 _ _ _ _ _ h cK ι a w fz b5 gX) λe pf ld al=>?_;have:=al.1;cases x with
  |normal=>subst this;exact al
  |exit j=>exact absurd h (ey _ _)
  |ret=>subst this;exact al
 case loop c=>
  simp only[codeOk]at cK;exact wpIn_loop_rounds (n+1) (Z1 _ _ _ _ _ h cK ι a w fz b5 gX)
 case scope c=>
  simp only[codeOk]at cK;refine asX (wpIn_mono (h1 _ _ _ _ _ h cK ι a w fz b5 gX) λe pf ld al=>?_);have:=al.1;cases x<;>(subst this;exact al)
 case rangeFunc g ps assign body=>
  simp only[codeOk,dU]at cK;exact aj9 h1 lN cK.1.1 cK.1.2 cK.2 h b5 gX
def yf(aq:Nat)(P:Program)(G:aJ Func):Prop:= ∀f fn,G.get f=some fn->P.funcs[f]? =some fn∧(fn.name == "runtime.NumGoroutine")=false∧ ∀c,fn.body=some c->codeOk aq c=true
def Ej(aq:Nat)(T:Types)(B:Nat)(P:Program)(O:bo):Prop:= ∀f args s v s',O f args s=some (v,s')-> ∀(ι:bF) w (args':Array Value),fZ aq T ι (Full ι) B s w->pR aq ι->
 dJ ι args args'.toList->zA P f∧CallsIn Fence.wide 0 P f args' w (sS aq T B ι s w v s')
theorem Pg{args:List Value}{args':Array Value}(h:dJ ι args args'.toList){bG:Nat}(hle:args.length<=bG):pP ι (aJ.ofList .leaf 0 args) bG (args'++Array.replicate (bG - args'.size) undef):=by
 have hlen:=h.length;simp only[zt]at hlen;refine ⟨by simp;omega,λ(t:Nat)=>?_⟩;have k2:(aJ.ofList .leaf 0 args).get t=args[t]? :=by
  rw[aJ.YG];split;simp;rename_i a5;rw[aJ.tb,Bw D]
 simp only[bl,k2];rw[Hh];by_cases aO:t<args.length;obtain ⟨v',fx,eb⟩:=h.get (mA aO);rw[mA aO];have:(args'++Array.replicate (bG - args'.size) undef)[t]? =some v':=by
  rw[Array.getElem?_append_left D];simpa using fx
 rw[this];exact eb;rw[Bw D];have:((args'++Array.replicate (bG - args'.size) undef)[t]?).getD undef=undef:=by
  rw[Array.getElem?_append_right D,Array.getElem?_replicate];split<;>rfl
 rw[this];exact .undef _
theorem aiN(cA:iF P T)(jI:yf aq P G)(fv:Ej aq T B P O)(h1:BB aq T B P rec):∀f args s v s',nt O G T rec f args s=some (.val v s')-> ∀(ι:bF) w (args':Array Value),fZ aq T ι (Full ι) B s w->pR aq ι->
  dJ ι args args'.toList->zA P f∧CallsIn Fence.wide 0 P f args' w (sS aq T B ι s w v s'):=by
 intro f args s v s' h ι w args' iM au av;unfold nt at h;split at h;rename_i my bc aE;simp at h;obtain ⟨rfl,rfl⟩:=h;exact fv _ _ _ _ _ aE ι w args' iM au av;split at h;cases h;rename_i fn aM;obtain ⟨cQ,amG,cK⟩:=jI f fn aM;split at h;cases h;rename_i c Y;split at h;cases h;rename_i hle;rw[eu]at hle;refine ⟨⟨fn,cQ,by simp[Y],amG⟩,callsIn_of_wp_marks cQ Y trivial ?_⟩;have b5:kD aq T B ι { e:=aJ.ofList .leaf 0 args,bG:=fn.ntmps,s:=s,ms:=[] } { tmps:=args'++Array.replicate (fn.ntmps - args'.size) undef,defers:=[] } w:=
  ⟨iM,au,Pg av hle,trivial⟩
 have fin:∀(x:r7) (fr:Fr),(x=.normal∨x=.ret)->leave T fn fr=some (.val v s')-> ∀e a8 w',nB aq T B ι s w x fr e a8 w'->bodyPostM Fence.wide 0 P fn (sS aq T B ι s w v s') e a8 w':=by
  intro x fr hx Z e a8 w' al;obtain ⟨rfl,bI,ie,Ad⟩:=al;unfold leave at Z;split at Z;cases Z;rename_i aK y1;split at Z;rename_i l iL;simp at Z;obtain ⟨rfl,rfl⟩:=Z;have K2:=leaves (P:=P) (fr:= { fr with s:=aK }) cA Ad.iC Ad.env Ad.marks y1 rfl rfl iL (sS aq T B ι s w (pI l) aK) λv' pJ ad tm=>⟨bI,v',rfl,ad,ie.seq tm⟩;rcases hx with rfl|rfl
  exact K2;exact K2;cases Z
 split at h;rename_i fr hC;exact wpIn_mono (h1 _ _ _ _ _ hC (cK c Y) ι _ w none b5 trivial) (fin _ _ (.inl rfl) h);rename_i fr hC;exact wpIn_mono (h1 _ _ _ _ _ hC (cK c Y) ι _ w none b5 trivial) (fin _ _ (.inr rfl) h);cases h
theorem WR(cA:iF P T)(jI:yf aq P G)(fv:Ej aq T B P O)(z4:zE O)(CL:No aq T B P):∀n,BB aq T B P (go O G T n)∧On aq T B P (go O G T n) n∧Wz aq T B P (go O G T n)∧BA aq T B P (go O G T n)∧Oz aq T B P (go O G T n)
 |0=>by
  have aR:∀t,go O G T 0 t=none:=λ_=>rfl;refine ⟨?_,?_,?_,?_,?_⟩;intro c ro fr x fr' h;rw[aR]at h;cases h;intro c ro fr x fr' h;rw[aR]at h;cases h;intro ops aP flags l fr res h;rw[aR]at h;cases h;intro f args s v s' h;rw[aR]at h;cases h;intro l args s v s' h;rw[aR]at h;cases h
 |n+1=>by
  obtain ⟨J,U,aj,aH,bD⟩:=WR cA jI fv z4 CL n;have aa:=aiX cA CL J U aj aH;exact ⟨λc ro fr x fr' h=>aa.2 c ro fr x fr' h,λc ro fr x fr' h=>aa.1 c ro fr x fr' h,λops aP flags l fr res h cK rk kc=>ara cA (Fg T G z4 n) aH bD aj h cK rk kc,
   λf args s v s' h=>aiN cA jI fv J f args s v s' h,λl args s v s' h=>aqY J l args s v s' h⟩
end
end Go.ah
