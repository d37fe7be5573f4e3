/-
  A part: lemmas; conditions: those that each names.
-/
import Derived.Deep.AppendSrc
import Derived.Deep.Upon
import Derived.Deep.MidRow
import Derived.RangeFuncRecord
import Derived.Test.YtalmddmghdinkaaGreatDoorA
set_option linter.all false
set_option linter.deprecated false
noncomputable section
namespace Go.ah
open Go
section
structure iP where
 r:Nat
 o:Nat
 x:Nat
abbrev bF:=Nat->Option iP
def bF.le(ι bI:bF):Prop:= ∀b i,ι b=some i->bI b=some i
theorem bF.le_refl(ι:bF):ι.le ι:=λ_ _ h=>h
theorem bF.le_trans{ι bI nW:bF}(h:ι.le bI)(h':bI.le nW):ι.le nW:=λb i Y=>h' b i (h b i Y)
mutual
inductive cE(ι:bF):Value->Value->Prop
 |bool (b:Bool):cE ι (.bool b) (.bool b)
 |int (k:IntKind) (n:Int):cE ι (.int k n) (.int k n)
 |string (s:ByteArray):cE ι (.string s) (.string s)
 |nilFunc:cE ι .nilFunc .nilFunc
 |nilIface:cE ι .nilIface .nilIface
 |GC:cE ι (.pointer none) (.pointer none)
 |ptr (b o:Nat) (i:iP) (h:ι b=some i):cE ι (.pointer (some ⟨b,o,none⟩)) (.pointer (some ⟨i.r,i.o+o,none⟩))
 |xV (l c:Nat):cE ι (.slice none l c) (.slice none l c)
 |slice (b o l c bj:Nat) (i:iP) (h:ι b=some i) (J:c<=bj) (U:bj<=c+i.x):
   cE ι (.slice (some ⟨b,o,none⟩) l c) (.slice (some ⟨i.r,i.o+o,none⟩) l bj)
 |lW (a a8:Addr) (i:iP) (h:ι a.block=some i):cE ι (.slice (some a) 0 0) (.slice (some a8) 0 0)
 |Gr:cE ι (.map none) (.map none)
 |map (b:Nat) (i:iP) (h:ι b=some i):cE ι (.map (some b)) (.map (some i.r))
 |func (f:Nat) (a a8 b a4:List Value) (av:dJ ι a a8) (Y:dJ ι b a4):cE ι (.func (.func f) ⟨a⟩ ⟨b⟩) (.func (.func f) ⟨a8⟩ ⟨a4⟩)
 |yield (l:Nat) (i:iP) (h:ι l=some i):cE ι (.func (.yield l) #[] #[]) (.func (.yield i.r) #[] #[])
 |agg (l l':List Value) (h:dJ ι l l'):cE ι (.agg ⟨l⟩) (.agg ⟨l'⟩)
 |tuple (l l':List Value) (h:dJ ι l l'):cE ι (.tuple ⟨l⟩) (.tuple ⟨l'⟩)
inductive dJ(ι:bF):List Value->List Value->Prop
 |nil:dJ ι [] []
 |cons (v v':Value) (l l':List Value) (h:cE ι v v') (Z:dJ ι l l'):dJ ι (v::l) (v'::l')
end
mutual
theorem cE.mono{ι bI:bF}(hi:ι.le bI):∀ {v v':Value},cE ι v v'->cE bI v v'
 |_,_,.bool b=>.bool b
 |_,_,.int k n=>.int k n
 |_,_,.string s=>.string s
 |_,_,.nilFunc=>.nilFunc
 |_,_,.nilIface=>.nilIface
 |_,_,.GC=>.GC
 |_,_,.ptr b o i h=>.ptr b o i (hi _ _ h)
 |_,_,.xV l c=>.xV l c
 |_,_,.slice b o l c bj i h J U=>.slice b o l c bj i (hi _ _ h) J U
 |_,_,.lW a a8 i h=>.lW a a8 i (hi _ _ h)
 |_,_,.Gr=>.Gr
 |_,_,.map b i h=>.map b i (hi _ _ h)
 |_,_,.func f a a8 b a4 av Y=>.func f a a8 b a4 (dJ.mono hi av) (dJ.mono hi Y)
 |_,_,.yield l i h=>.yield l i (hi _ _ h)
 |_,_,.agg l l' h=>.agg l l' (dJ.mono hi h)
 |_,_,.tuple l l' h=>.tuple l l' (dJ.mono hi h)
theorem dJ.mono{ι bI:bF}(hi:ι.le bI):∀ {l l':List Value},dJ ι l l'->dJ bI l l'
 |_,_,.nil=>.nil
 |_,_,.cons v v' l l' h Z=>.cons v v' l l' (cE.mono hi h) (dJ.mono hi Z)
end
mutual
theorem cE.narrow{ι bI:bF}(hi:ι.le bI):∀ {v my Ha:Value},cE ι v my->cE bI v Ha->cE ι v Ha
 |_,_,_,.bool b,h=>by cases h;exact .bool b
 |_,_,_,.int k n,h=>by cases h;exact .int k n
 |_,_,_,.string s,h=>by cases h;exact .string s
 |_,_,_,.nilFunc,h=>by cases h;exact .nilFunc
 |_,_,_,.nilIface,h=>by cases h;exact .nilIface
 |_,_,_,.GC,h=>by cases h;exact .GC
 |_,_,_,.ptr b o i p8,h=>by
  cases h with
  |ptr _ _ dt nf=>
   have:=hi _ _ p8;rw[nf]at this;cases this;exact .ptr b o _ p8
 |_,_,_,.xV l c,h=>by cases h;exact .xV l c
 |_,_,_,.slice b o l c bj i p8 _ _,h=>by
  cases h with
  |slice _ _ _ _ OK dt nf aB aT=>
   have:=hi _ _ p8;rw[nf]at this;cases this;exact .slice b o l c OK _ p8 aB aT
  |lW a a8 dt nf=>exact .lW _ _ i p8
 |_,_,_,.lW a a8 i p8,h=>by
  cases h with
  |slice b o _ _ OK dt nf aB aT=>
   have:=hi _ _ p8;simp only[]at this;rw[nf]at this;cases this;exact .slice b o 0 0 OK _ p8 aB aT
  |lW _ atj dt nf=>exact .lW _ _ i p8
 |_,_,_,.Gr,h=>by cases h;exact .Gr
 |_,_,_,.map b i p8,h=>by
  cases h with
  |map _ dt nf=>
   have:=hi _ _ p8;rw[nf]at this;cases this;exact .map b _ p8
 |_,_,_,.func f a a8 b a4 av Y,h=>by
  cases h with
  |func _ _ _ _ _ aB aT=>exact .func _ _ _ _ _ (dJ.narrow hi av aB) (dJ.narrow hi Y aT)
 |_,_,_,.yield l i p8,h=>by
  cases h with
  |yield _ dt nf=>
   have:=hi _ _ p8;rw[nf]at this;cases this;exact .yield l _ p8
 |_,_,_,.agg l l' Z,h=>by
  cases h with
  |agg _ _ k=>exact .agg _ _ (dJ.narrow hi Z k)
 |_,_,_,.tuple l l' Z,h=>by
  cases h with
  |tuple _ _ k=>exact .tuple _ _ (dJ.narrow hi Z k)
theorem dJ.narrow{ι bI:bF}(hi:ι.le bI):∀ {l Df AG:List Value},dJ ι l Df->dJ bI l AG->dJ ι l AG
 |_,_,_,.nil,h=>by cases h;exact .nil
 |_,_,_,.cons v v' l l' ad Z,h=>by
  cases h with
  |cons _ _ _ _ aB aT=>exact .cons _ _ _ _ (cE.narrow hi ad aB) (dJ.narrow hi Z aT)
end
theorem dJ.length{ι:bF}{l l':List Value}(h:dJ ι l l'):l.length=l'.length:=by
 induction l generalizing l' with
 |nil=>cases h;rfl
 |cons v l a3=>cases h with|cons _ v' _ l' h Z=>simp[a3 Z]
theorem dJ.get{ι:bF}{l l':List Value}(h:dJ ι l l'){j:Nat}{v:Value}(aG:l[j]? =some v):∃v',l'[j]? =some v'∧cE ι v v':=by
 induction l generalizing l' j with
 |nil=>simp at aG
 |cons u l a3=>
  cases h with
  |cons _ kS _ l' h Z=>
   cases j with
   |zero=>simp at aG;subst aG;exact ⟨kS,rfl,h⟩
   |succ j=>simp at aG;simpa using a3 Z aG
theorem dJ.append{ι:bF}{a a8 b a4:List Value}(av:dJ ι a a8)(Y:dJ ι b a4):dJ ι (a++b) (a8++a4):=by
 induction a generalizing a8 with
 |nil=>cases av;exact Y
 |cons v a a3=>cases av with|cons _ v' _ a8 h Z=>exact .cons _ _ _ _ h (a3 Z)
theorem dJ.take{ι:bF}{a a8:List Value}(av:dJ ι a a8)(n:Nat):dJ ι (a.take n) (a8.take n):=by
 induction a generalizing a8 n with
 |nil=>cases av;simp;exact .nil
 |cons v a a3=>cases av with
  |cons _ v' _ a8 h Z=>cases n with
   |zero=>exact .nil
   |succ n=>exact .cons _ _ _ _ h (a3 Z n)
theorem dJ.drop{ι:bF}{a a8:List Value}(av:dJ ι a a8)(n:Nat):dJ ι (a.drop n) (a8.drop n):=by
 induction a generalizing a8 n with
 |nil=>cases av;simp;exact .nil
 |cons v a a3=>cases av with
  |cons _ v' _ a8 h Z=>cases n with
   |zero=>exact .cons _ _ _ _ h Z
   |succ n=>exact a3 Z n
theorem dJ.ab3{ι:bF} :∀ {l l':List Value},l.length=l'.length->(∀(j:Nat) (v v':Value),l[j]? =some v->l'[j]? =some v'->cE ι v v')->dJ ι l l'
 |[],[],_,_=>.nil
 |[],_::_,h,_=>by simp at h
 |_::_,[],h,_=>by simp at h
 |v::l,v'::l',h,dE=>.cons _ _ _ _ (dE 0 v v' rfl rfl) (dJ.ab3 (by simpa using h) (λj u kS hu p6=>dE (j+1) u kS (by simpa using hu) (by simpa using p6)))
theorem dJ.gp{ι:bF}{a a8 b a4:List Value}(av:dJ ι a a8)(Y:dJ ι b a4)(off:Nat):dJ ι (gp a off b) (gp a8 off a4):=by
 unfold ah.gp;rw[Y.length];exact (av.take off).append (Y.append (av.drop _))
theorem cE.undef(ι:bF):cE ι undef undef:=.tuple [] [] .nil
theorem cE.eJ{ι:bF}{v v':Value}(h:cE ι v v'):dJ ι (eJ v) v'.cells.toList:=by
 cases h<;>first|exact .cons _ _ _ _ (by constructor<;>assumption) .nil|assumption
theorem cE.scalar{ι:bF}{v v':Value}(h:cE ι v v')(ae:scalar v=true):v'.oneCell'=true:=by
 cases h<;>first|rfl|(simp[ah.scalar]at ae)
def plain:Value->Bool
 |.bool _=>true
 |.int _ _=>true
 |.string _=>true
 |.pointer none=>true
 |.slice none _ _=>true
 |.map none=>true
 |.nilFunc=>true
 |.nilIface=>true
 |.func (.func _) ⟨[]⟩ ⟨[]⟩=>true
 |.tuple ⟨[]⟩=>true
 |_=>false
def tN:Value->Bool
 |.agg ⟨l⟩=>l.all plain
 |v=>plain v
theorem cE.Dm{ι:bF}{v:Value}(h:plain v=true):cE ι v v:=by
 unfold plain at h;split at h<;>first|(exact .bool _)|(exact .int _ _)|(exact .string _)|exact .GC|(exact .xV _ _)|exact .Gr|exact .nilFunc|exact .nilIface|(exact .func _ _ _ _ _ .nil .nil)|(exact .tuple _ _ .nil)|(simp at h)
theorem dJ.Dm{ι:bF}{l:List Value}(h:l.all plain=true):dJ ι l l:=by
 induction l with
 |nil=>exact .nil
 |cons v l a3=>
  simp at h;exact .cons _ _ _ _ (.Dm h.1) (a3 (by simpa using h.2))
theorem cE.xP{ι:bF}{v:Value}(h:tN v=true):cE ι v v:=by
 unfold tN at h;split at h;exact .agg _ _ (.Dm h);exact .Dm h
structure pP(ι:bF)(e:aJ Value)(bG:Nat)(tmps:Array Value):Prop where
 size:tmps.size=bG
 rel:∀t,cE ι (bl e (.tmp t)) (tmps.getD t undef)
theorem pP.mono{ι bI:bF}{e:aJ Value}{bG:Nat}{tmps:Array Value}(h:pP ι e bG tmps)(hi:ι.le bI):pP bI e bG tmps:=
 ⟨h.size,λt=>(h.rel t).mono hi⟩
theorem pP.set{ι:bF}{e:aJ Value}{bG:Nat}{tmps:Array Value}(h:pP ι e bG tmps){d:Nat}(ai:d<bG){v v':Value}(ad:cE ι v v'):
  pP ι (e.set d v) bG (tmps.setIfInBounds d v'):=by
 refine ⟨by simpa using h.size,λt=>?_⟩;have ae:=h.size;by_cases aO:t=d;subst aO;have:(tmps.setIfInBounds t v').getD t undef=v':=by simp[Array.getD,ae,ai]
 rw[this];simpa [bl,aJ.jV] using ad;have:(tmps.setIfInBounds d v').getD t undef=tmps.getD t undef:=by
  simp only[Hh];rw[TL (Ne.symm aO)]
 rw[this];simpa [bl,aJ.hj _ _ aO] using h.rel t
def tM(aq:Nat):Operand->Bool
 |.const v=>tN v
 |.global g=>Nat.blt g aq
 |_=>true
def pR(aq:Nat)(ι:bF):Prop:= ∀g,g<aq-> ∃x,ι g=some ⟨g,0,x⟩
theorem pR.mono{aq:Nat}{ι bI:bF}(h:pR aq ι)(hi:ι.le bI):pR aq bI:=λg au=>let ⟨x,hx⟩:=h g au;⟨x,hi _ _ hx⟩
theorem pP.bl{ι:bF}{e:aJ Value}{bG aq:Nat}{a:Act}(h:pP ι e bG a.tmps)(au:pR aq ι){x:Operand}(hx:tM aq x=true):
  cE ι (bl e x) (a.eval x):=by
 cases x with
 |tmp t=>exact h.rel t
 |const v=>exact .xP hx
 |global g=>
  obtain ⟨x,hx⟩:=au g (by simpa [tM,gy] using hx);have:=cE.ptr (ι:=ι) g 0 _ hx;simpa [ah.bl,Act.eval] using this
 |func f=>exact .func f [] [] [] [] .nil .nil
def zj(T:Types)(e:Nat):Nat:=match T.get e with
 |some t=>t.size
 |none=>0
structure Nj(T:Types)(ι:bF)(B:Nat)(cs:List Value)(e:Nat)(bx own:Bool)(i:iP)(w:World):Prop where
 there:i.r<w.heap.size
 ot:∀j v,cs[j]? =some v-> ∃v',w.cell? ⟨i.r,i.o+j,none⟩=some v'∧cE ι v v'
 room:∀j,j<cs.length+i.x*zj T e->(w.cell? ⟨i.r,i.o+j,none⟩).isSome=true
 tight:bx=false->i.x=0
 nT:own=true->B<=i.r∧ ∀j,j<cs.length+i.x*zj T e->w.frozen? ⟨i.r,i.o+j,none⟩=false
 tp:own=false->i.r<B
def lh(ι:bF):List (Value×Value)->List MapEntry->Prop
 |[],[]=>True
 |(k,v)::es,m::ms=>cE ι k m.key∧cE ι v m.val∧lh ι es ms
 |_,_=>False
theorem lh.mono{ι bI:bF}(hi:ι.le bI):∀ {es:List (Value×Value)} {ms:List MapEntry},lh ι es ms->lh bI es ms
 |[],[],_=>trivial
 |(_,_)::_,_::_,⟨a,b,c⟩=>⟨a.mono hi,b.mono hi,lh.mono hi c⟩
 |[],_::_,h=>h.elim
 |(_,_)::_,[],h=>h.elim
def LJ:Value->Int
 |.int _ n=>n
 |_=>0
def Oo(own:Bool)(l m:List MapEntry):Prop:=l=m∨(own=false∧l.Perm m∧(l.map λe=>LJ e.key).Nodup∧ ∃q,∀e∈l,∃b,e.key=.int q b)
structure agW(ι:bF)(B:Nat)(es:List (Value×Value))(own:Bool)(i:iP)(w:World):Prop where
 there:∃(ms:Array MapEntry) (clock:Nat),w.heap[i.r]? =some (.map ms clock)∧ ∃l,lh ι es l∧Oo own l ms.toList
 nT:own=true->B<=i.r
 tp:own=false->i.r<B
def qe(aq:Nat)(o:Oper):Bool:=o.op.operands.toList.all (tM aq)
def codeOk(aq:Nat):Code->Bool
 |.region _ ops aP=>ops.toList.all (qe aq) && (!aP || SI ops)
 |.seq a b=>codeOk aq a && codeOk aq b
 |.cond c a b=>tM aq c && codeOk aq a && codeOk aq b
 |.block _ c=>codeOk aq c
 |.loop c=>codeOk aq c
 |.scope c=>codeOk aq c
 |.rangeFunc f _ a b=>tM aq f && codeOk aq a && codeOk aq b
 |_=>true
structure Eg(aq:Nat)(ι:bF)(B:Nat)(r:yk)(i:iP)(w:World):Prop where
 there:∃L:Loop,w.heap[i.r]? =some (.loop L)∧L.state=r.state∧L.pending=r.pending∧pP ι r.e r.bG L.tmps∧L.params.toList=r.params∧L.assign=r.assign∧
  L.body=r.body∧(∃j,ι r.defers=some j∧L.defers=j.r)
 ok:codeOk aq r.assign=true∧codeOk aq r.body=true
 wc:r.pending=none∨r.pending=some .ret∨ ∃id,r.pending=some (.exit id)
 nT:B<=i.r
def m2(aq:Nat)(T:Types)(ι:bF)(B:Nat)(o:hs)(i:iP)(w:World):Prop:=
 match o with
 |.cells cs e bx own=>Nj T ι B cs e bx own i w
 |.map es own=>agW ι B es own i w
 |.loop r=>Eg aq ι B r i w
 |.defs=>w.heap[i.r]? =some (.deferred (some []))∧B<=i.r
 |.dead=>True
def live:hs->Bool
 |.cells _ _ _ own=>own
 |.map _ own=>own
 |.loop _=>true
 |.defs=>true
 |.dead=>false
theorem m2.lt{aq:Nat}{T:Types}{ι:bF}{B:Nat}{o:hs}{i:iP}{w:World}(h:m2 aq T ι B o i w)(Z:live o=true):B<=i.r∧i.r<w.heap.size:=by
 have key:∀ {x},w.heap[i.r]? =some x->i.r<w.heap.size:=λ{x} h=>by
  rw[o9]at h;exact h.1
 cases o with
 |cells cs e bx own=>exact ⟨(h.nT Z).1,h.there⟩
 |map es own=>obtain ⟨ms,c,hm,_⟩:=h.there;exact ⟨h.nT Z,key hm⟩
 |loop r=>obtain ⟨L,gn,_⟩:=h.there;exact ⟨h.nT,key gn⟩
 |defs=>exact ⟨h.2,key h.1⟩
 |dead=>simp[live]at Z
theorem m2.k5{aq:Nat}{T:Types}{ι bI:bF}{B:Nat}{o:hs}{i:iP}{w w':World}(h:m2 aq T ι B o i w)(hi:ι.le bI)(E:w'.heap[i.r]? =w.heap[i.r]?)
  :m2 aq T bI B o i w':=by
 have aa:∀j,w'.cell? ⟨i.r,j,none⟩=w.cell? ⟨i.r,j,none⟩:=λj=>by simp only[World.cell?,E]
 have aM:∀j,w'.frozen? ⟨i.r,j,none⟩=w.frozen? ⟨i.r,j,none⟩:=λj=>by simp only[World.frozen?,E]
 cases o with
 |cells cs e bx own=>
  refine ⟨?_,λj v aG=>?_,λj aG=>by rw[aa];exact h.room j aG,h.tight,λaE=>⟨(h.nT aE).1,λj aG=>by rw[aM];exact (h.nT aE).2 j aG⟩,h.tp⟩;have:=h.there;rw[Array.getElem?_eq_getElem this]at E;exact (o9.1 E).1;obtain ⟨v',J,U⟩:=h.ot j v aG;exact ⟨v',by rw[aa];exact J,U.mono hi⟩
 |map es own=>
  obtain ⟨ms,c,hm,l,al,hx⟩:=h.there;exact ⟨⟨ms,c,by rw[E];exact hm,l,al.mono hi,hx⟩,h.nT,h.tp⟩
 |loop r=>
  obtain ⟨L,J,U,aj,aH,bD,cF,dV,j,fL,jH⟩:=h.there;exact ⟨⟨L,by rw[E];exact J,U,aj,aH.mono hi,bD,cF,dV,j,hi _ _ fL,jH⟩,h.ok,h.wc,h.nT⟩
 |defs=>exact ⟨by rw[E];exact h.1,h.2⟩
 |dead=>trivial
structure fZ(aq:Nat)(T:Types)(ι:bF)(aQ:Nat->Prop)(B:Nat)(s:b9)(w:World):Prop where
 obj:∀b o i,aQ b->s.h.get b=some o->ι b=some i->m2 aq T ι B o i w
 inj:∀b a4 o o' i dt,aQ b->aQ a4->s.h.get b=some o->s.h.get a4=some o'->live o=true->live o'=true->ι b=some i->ι a4=some dt->i.r=dt.r->b=a4
 lt:∀b i,ι b=some i->b<s.n
 base:B<=w.heap.size
def Full(ι:bF):Nat->Prop:=λb=> ∃i,ι b=some i
structure dr(aq:Nat)(T:Types)(B:Nat)(ι:bF)(aQ:Nat->Prop)(s:b9)(w:World)(bI:bF)(s':b9)(w':World):Prop where
 le:ι.le bI
 ri:∀b i,bI b=some i->ι b=some i∨s.n<=b
 iC:fZ aq T bI (λb=>aQ b∨s.n<=b) B s' w'
 n:s.n<=s'.n
 ag:s'.ag<=s.ag
 LI:∀b,b<s.n->b<s'.ag->s'.h.get b=s.h.get b
 wg:∀r,r<w.heap.size->(∀b i o,aQ b->ι b=some i->s.h.get b=some o->live o=true->s'.ag<=b->i.r≠r)->w'.heap[r]? =w.heap[r]?
 sy:∀b i o,(aQ b∨s.n<=b)->bI b=some i->s'.h.get b=some o->live o=true->w.heap.size<=i.r∨
  ∃hH py oj,aQ hH∧ι hH=some py∧s.h.get hH=some oj∧live oj=true∧py.r=i.r∧(hH=b∨s'.ag<=hH)
 size:w.heap.size<=w'.heap.size
 out:w'.os=w.os∧w'.output=w.output
variable {aq:Nat}{T:Types}{B:Nat}
theorem dr.refl{ι:bF}{aQ:Nat->Prop}{s:b9}{w w':World}(h:fZ aq T ι aQ B s w)(hw:w'.heap=w.heap)(fv:w'.os=w.os∧w'.output=w.output:=by exact ⟨rfl,rfl⟩):dr aq T B ι aQ s w ι s w':=by
 refine ⟨bF.le_refl _,λb i h=>.inl h,⟨λb o i ai Y hi=>?_,λb a4 o o' i dt ai eP Y ft Z dK hi fw e=>?_,h.lt,by rw[hw];exact h.base⟩,cg _,cg _,λ_ _ _=>rfl,λr _ _=>by rw[hw],λb i o ai hi Y Z=>?_,by rw[hw];exact cg _,fv⟩;have:=h.lt b i hi;exact (h.obj b o i (ai.resolve_right D) Y hi).k5 (bF.le_refl _) (by rw[hw]);have J:=h.lt b i hi;have U:=h.lt a4 dt fw;exact h.inj b a4 o o' i dt (ai.resolve_right D) (eP.resolve_right D) Y ft Z dK hi fw e;have J:=h.lt b i hi;exact .inr ⟨b,i,o,ai.resolve_right D,hi,Y,Z,rfl,.inl rfl⟩
theorem dr.trans{ι bI nW:bF}{aQ:Nat->Prop}{s s' pF:b9}{w w' pJ:World}(h:dr aq T B ι aQ s w bI s' w')
  (h':dr aq T B bI (λb=>aQ b∨s.n<=b) s' w' nW pF pJ):dr aq T B ι aQ s w nW pF pJ:=by
 have a5:=h.n;have p7:=h'.ag;have iJ:∀b i,nW b=some i->(aQ b∨s.n<=b)->((aQ b∨s.n<=b)∨s'.n<=b):=λ_ _ _ h=>.inl h;refine ⟨bF.le_trans h.le h'.le,λb i hi=>?_,⟨λb o i ai Y hi=>h'.iC.obj b o i (iJ b i hi ai) Y hi,λb a4 o o' i dt ai eP Y ft Z dK hi fw e=>
  h'.iC.inj b a4 o o' i dt (iJ b i hi ai) (iJ a4 dt fw eP) Y ft Z dK hi fw e,h'.iC.lt,h'.iC.base⟩,by have:=h'.n;omega,by have:=h.ag;omega,λb J U=>?_,λr E jK=>?_,λb i o ai hi Y Z=>?_,by have:=h.size;have:=h'.size;omega,h'.out.1.trans h.out.1,h'.out.2.trans h.out.2⟩
 rcases h'.ri b i hi with J|J
 exact h.ri b i J;exact .inr D;rw[h'.LI b D U,h.LI b J D];have J:w'.heap[r]? =w.heap[r]? :=h.wg r E λb i o ai hi Y Z hle=>jK b i o ai hi Y Z D;rw[<-J];refine h'.wg r (by have:=h.size;omega) λb i o ai hi Y Z hle e=>?_;rcases h.sy b i o ai hi Y Z with U|⟨hH,py,oj,Qj,Qw,P6,sl,ajT,sn⟩
 omega;refine jK hH py oj Qj Qw P6 sl ?_ D;rcases sn with rfl|sn<;>omega
 rcases h'.sy b i o (iJ b i hi ai) hi Y Z with J|⟨hH,py,oj,Qj,Qw,P6,sl,ajT,sn⟩
 exact .inl (by have:=h.size;omega);rcases h.sy hH py oj Qj Qw P6 sl with J|⟨uw,C6,nq,Ac,tq,CJ,CQ,xg,aaj⟩
 exact .inl D;refine .inr ⟨uw,C6,nq,Ac,tq,CJ,CQ,D,?_⟩;rcases aaj with rfl|aaj
 rcases sn with rfl|sn
 exact .inl rfl;exact .inr sn;exact .inr D
end
section
variable {aq:Nat}{T:Types}{B:Nat}{ι:bF}{aQ:Nat->Prop}{s:b9}{w w':World}
def bF.add(ι:bF)(n:Nat)(i:iP):bF:=λb=>if b=n then some i else ι b
theorem bF.add_same(ι:bF)(n:Nat)(i:iP):ι.add n i n=some i:=by simp[bF.add]
theorem bF.j7(ι:bF){n b:Nat}(i:iP)(h:b≠n):ι.add n i b=ι b:=by simp[bF.add,h]
theorem bF.Dd{n:Nat}(h:∀b i,ι b=some i->b<n)(i:iP):ι.le (ι.add n i):=λb j Y=>by
 rw[bF.j7];exact Y;have:=h b j Y;omega
theorem SP(b:Nat):∀(l:List Value) (o:Nat) (w:World),(w.setCells b o l).os=w.os∧(w.setCells b o l).output=w.output
 |[],_,_=>⟨rfl,rfl⟩
 |v::l,o,w=>by
  have:=SP b l (o+1) (w.setCell ⟨b,o,none⟩ v);exact ⟨this.1.trans rfl,this.2.trans rfl⟩
theorem dr.new(h:fZ aq T ι aQ B s w)(o:hs)(rO:Obj)(x:Nat)(hw:w'.heap=w.heap.push rO)
  (aE:m2 aq T (ι.add s.n ⟨w.heap.size,0,x⟩) B o ⟨w.heap.size,0,x⟩ w') (fv:w'.os=w.os∧w'.output=w.output:=by exact ⟨rfl,rfl⟩):dr aq T B ι aQ s w (ι.add s.n ⟨w.heap.size,0,x⟩) (newObj s o) w':=by
 have hle:=bF.Dd h.lt ⟨w.heap.size,0,x⟩;have hold:∀r,r<w.heap.size->w'.heap[r]? =w.heap[r]? :=λr E=>by rw[hw,Array.getElem?_push];simp[Nat.ne_of_lt E]
 have iN:w'.heap.size=w.heap.size+1:=by rw[hw];simp
 have cases:∀b o' i,(aQ b∨s.n<=b)->(newObj s o).h.get b=some o'->(ι.add s.n ⟨w.heap.size,0,x⟩) b=some i->
   (b=s.n∧o'=o∧i=⟨w.heap.size,0,x⟩)∨(b≠s.n∧aQ b∧s.h.get b=some o'∧ι b=some i∧b<s.n):=by
  intro b o' i ai Y hi;by_cases e:b=s.n;subst e;rw[bF.add_same]at hi;simp only[newObj,aJ.jV]at Y;exact .inl ⟨rfl,(Option.some.inj Y).symm,(Option.some.inj hi).symm⟩;rw[bF.j7 _ _ e]at hi;simp only[newObj,aJ.hj _ _ e]at Y;have:=h.lt b i hi;exact .inr ⟨e,ai.resolve_right D,Y,hi,this⟩
 have abt:∀b o' i,aQ b->s.h.get b=some o'->ι b=some i->live o'=true->i.r<w.heap.size:=λb o' i ai Y hi Z=>((h.obj b o' i ai Y hi).lt Z).2;refine ⟨hle,λb i hi=>?_,⟨λb o' i ai Y hi=>?_,λb a4 nq om i dt ai eP Y ft Z dK hi fw e=>?_,λb i hi=>?_,by have:=h.base;omega⟩,by simp[newObj],cg _,λb Y _=>?_,λr E _=>hold r E,λb i o' ai hi Y Z=>?_,D,fv⟩;by_cases e:b=s.n;exact .inr D;rw[bF.j7 _ _ e]at hi;exact .inl hi;rcases cases b o' i ai Y hi with ⟨rfl,rfl,rfl⟩|⟨e,ai,Y,hi,b6⟩
 exact aE;have E:=h.obj b o' i ai Y hi;cases Z:live o' with
 |true=>exact E.k5 hle (hold _ (E.lt Z).2)
 |false=>
  cases o' with
  |cells cs e bx own=>exact m2.k5 E hle (hold _ E.there)
  |map es own=>
   obtain ⟨ms,c,hm,_⟩:=E.there;exact m2.k5 E hle (hold _ (o9.1 hm).1)
  |loop r=>simp[live]at Z
  |defs=>simp[live]at Z
  |dead=>trivial
 rcases cases b nq i ai Y hi with ⟨rfl,rfl,rfl⟩|⟨xg,kf,Gh,aa7,b6⟩<;>rcases cases a4 om dt eP ft fw with ⟨rfl,rfl,rfl⟩|⟨oR,aa2,aa1,aa8,CP⟩
 rfl;have:=abt a4 om dt aa2 aa1 aa8 dK;simp at e;omega;have:=abt b nq i kf Gh aa7 Z;simp at e;omega;exact h.inj b a4 nq om i dt kf aa2 Gh aa1 Z dK aa7 aa8 e;by_cases e:b=s.n;subst e;simp[newObj];rw[bF.j7 _ _ e]at hi;have:=h.lt b i hi;simp[newObj];omega;simp only[newObj];rw[aJ.hj];omega;rcases cases b o' i ai Y hi with ⟨rfl,rfl,rfl⟩|⟨e,ai,Y,hi,b6⟩
 exact .inl (cg _);exact .inr ⟨b,i,o',ai,hi,Y,Z,rfl,.inl rfl⟩
theorem dr.write(h:fZ aq T ι aQ B s w){b:Nat}{o o':hs}{i:iP}(ai:aQ b)(Y:s.h.get b=some o)(hi:ι b=some i)(Z:live o=true)(dK:live o'=true∨o'=.dead)
  (iN:w'.heap.size=w.heap.size) (hw:∀r,r≠i.r->w'.heap[r]? =w.heap[r]?) (aE:m2 aq T ι B o' i w') (fv:w'.os=w.os∧w'.output=w.output:=by exact ⟨rfl,rfl⟩):
  dr aq T B ι aQ s w ι { s with h:=s.h.set b o',ag:=min s.ag b } w':=by
 have kA:=(h.obj b o i ai Y hi).lt Z;have b6:=h.lt b i hi;have cases:∀c q j,(aQ c∨s.n<=c)->(s.h.set b o').get c=some q->ι c=some j->aQ c∧((c=b∧q=o'∧j=i)∨(c≠b∧s.h.get c=some q)):=by
  intro c q j g1 aa aG;have:=h.lt c j aG;refine ⟨g1.resolve_right D,?_⟩;by_cases e:c=b;subst e;rw[aJ.jV]at aa;exact .inl ⟨rfl,(Option.some.inj aa).symm,by rw[hi]at aG;exact (Option.some.inj aG).symm⟩;rw[aJ.hj _ _ e]at aa;exact .inr ⟨e,aa⟩
 have QD:live o'=true∨live o'=false:=by cases live o'<;>simp
 refine ⟨bF.le_refl _,λc j aG=>.inl aG,⟨λc q j g1 aa aG=>?_,λc bj q q' j AA g1 yJ aa lM a7 kK aG nM e=>?_,λc j aG=>h.lt c j aG,by rw[iN];exact h.base⟩,cg _,by simp;omega,λc aa hm=>?_,λr E jK=>?_,λc j q g1 aG aa a7=>?_,D,fv⟩;rcases cases c q j g1 aa aG with ⟨g1,⟨rfl,rfl,rfl⟩|⟨e,aa⟩⟩;exact aE;have E:=h.obj c q j g1 aa aG;cases a7:live q with
 |true=>
  refine E.k5 (bF.le_refl _) (hw _ λaZ=>e ?_);exact h.inj c b q o j i g1 ai aa Y a7 Z aG hi aZ
 |false=>
  cases q with
  |cells cs e bx own=>
   have:=E.tp (by simpa [live] using a7);exact m2.k5 E (bF.le_refl _) (hw _ D)
  |map es own=>
   have:=E.tp (by simpa [live] using a7);exact m2.k5 E (bF.le_refl _) (hw _ D)
  |loop r=>simp[live]at a7
  |defs=>simp[live]at a7
  |dead=>trivial
 rcases cases c q j g1 aa aG with ⟨g1,J⟩;rcases cases bj q' AA yJ lM nM with ⟨yJ,U⟩;rcases J with ⟨rfl,rfl,rfl⟩|⟨xg,uZ⟩<;>rcases U with ⟨rfl,rfl,rfl⟩|⟨oR,AE⟩
 rfl;exact h.inj _ _ o q' _ _ ai yJ Y AE Z kK hi nM e;exact h.inj _ _ q o _ _ g1 ai uZ Y a7 Z aG hi e;exact h.inj _ _ q q' _ _ g1 yJ uZ AE a7 kK aG nM e;have:c≠b:=by intro e;subst e;simp at hm;omega
 simp only[];rw[aJ.hj _ _ this];exact hw r λe=>jK b i o ai hi Y Z (by simp;omega) e.symm;rcases cases c q j g1 aa aG with ⟨g1,⟨rfl,rfl,rfl⟩|⟨e,aa⟩⟩;exact .inr ⟨_,_,o,ai,hi,Y,Z,rfl,.inl rfl⟩;exact .inr ⟨c,j,q,g1,aG,aa,a7,rfl,.inl rfl⟩
theorem dr.grow(h:fZ aq T ι aQ B s w){b:Nat}{o o':hs}{i:iP}(x:Nat)(ai:aQ b)(Y:s.h.get b=some o)(hi:ι b=some i)(Z:live o=true)
  (iN:w'.heap.size=w.heap.size) (hw:∀r,r≠i.r->w'.heap[r]? =w.heap[r]?) (aE:m2 aq T (ι.add s.n ⟨i.r,i.o,x⟩) B o' ⟨i.r,i.o,x⟩ w') (fv:w'.os=w.os∧w'.output=w.output:=by exact ⟨rfl,rfl⟩):
  dr aq T B ι aQ s w (ι.add s.n ⟨i.r,i.o,x⟩) (newObj { s with h:=s.h.set b .dead,ag:=min s.ag b } o') w':=by
 have kA:=(h.obj b o i ai Y hi).lt Z;have b6:=h.lt b i hi;have hle:=bF.Dd h.lt ⟨i.r,i.o,x⟩;have cases:∀c q j,(aQ c∨s.n<=c)->((s.h.set b .dead).set s.n o').get c=some q->(ι.add s.n ⟨i.r,i.o,x⟩) c=some j->
   (c=s.n∧q=o'∧j=⟨i.r,i.o,x⟩)∨(c<s.n∧aQ c∧ι c=some j∧((c=b∧q=.dead)∨(c≠b∧s.h.get c=some q))):=by
  intro c q j g1 aa aG;by_cases e:c=s.n;subst e;rw[aJ.jV]at aa;rw[bF.add_same]at aG;exact .inl ⟨rfl,(Option.some.inj aa).symm,(Option.some.inj aG).symm⟩;rw[aJ.hj _ _ e]at aa;rw[bF.j7 _ _ e]at aG;have:=h.lt c j aG;refine .inr ⟨this,g1.resolve_right D,aG,?_⟩;by_cases aZ:c=b;subst aZ;rw[aJ.jV]at aa;exact .inl ⟨rfl,(Option.some.inj aa).symm⟩;rw[aJ.hj _ _ aZ]at aa;exact .inr ⟨aZ,aa⟩
 refine ⟨hle,λc j aG=>?_,⟨λc q j g1 aa aG=>?_,λc bj q q' j AA g1 yJ aa lM a7 kK aG nM e=>?_,λc j aG=>?_,by rw[iN];exact h.base⟩,by simp[newObj],by simp[newObj];omega,λc aa hm=>?_,λr E jK=>?_,λc j q g1 aG aa a7=>?_,D,fv⟩;by_cases e:c=s.n;exact .inr D;rw[bF.j7 _ _ e]at aG;exact .inl aG;rcases cases c q j g1 aa aG with ⟨rfl,rfl,rfl⟩|⟨KK,g1,aG,⟨rfl,rfl⟩|⟨e,aa⟩⟩
 exact aE;trivial;have E:=h.obj c q j g1 aa aG;cases a7:live q with
 |true=>
  refine E.k5 hle (hw _ λaZ=>e ?_);exact h.inj c b q o j i g1 ai aa Y a7 Z aG hi aZ
 |false=>
  cases q with
  |cells cs e bx own=>
   have:=E.tp (by simpa [live] using a7);exact m2.k5 E hle (hw _ D)
  |map es own=>
   have:=E.tp (by simpa [live] using a7);exact m2.k5 E hle (hw _ D)
  |loop r=>simp[live]at a7
  |defs=>simp[live]at a7
  |dead=>trivial
 rcases cases c q j g1 aa aG with ⟨rfl,rfl,rfl⟩|⟨KK,aa3,abb,⟨rfl,rfl⟩|⟨xg,uZ⟩⟩<;>rcases cases bj q' AA yJ lM nM with ⟨rfl,rfl,rfl⟩|⟨auh,aa4,abc,⟨rfl,rfl⟩|⟨oR,AE⟩⟩
 rfl;simp[live]at kK;exact absurd (h.inj _ _ o q' _ _ ai aa4 Y AE Z kK hi abc e).symm oR;simp[live]at a7;simp[live]at a7;simp[live]at a7;exact absurd (h.inj _ _ q o _ _ aa3 ai uZ Y a7 Z abb hi e) xg;simp[live]at kK;exact h.inj _ _ q q' _ _ aa3 aa4 uZ AE a7 kK abb abc e;by_cases e:c=s.n;subst e;simp[newObj];rw[bF.j7 _ _ e]at aG;have:=h.lt c j aG;simp[newObj];omega;have J:c≠b:=by intro e;subst e;simp[newObj]at hm;omega
 simp only[newObj];rw[aJ.hj _ _ D,aJ.hj _ _ J];exact hw r λe=>jK b i o ai hi Y Z (by simp[newObj];omega) e.symm;rcases cases c q j g1 aa aG with ⟨rfl,rfl,rfl⟩|⟨KK,g1,aG,⟨rfl,rfl⟩|⟨e,aa⟩⟩
 exact .inr ⟨b,i,o,ai,hi,Y,Z,rfl,.inr (by simp[newObj];omega)⟩;simp[live]at a7;exact .inr ⟨c,j,q,g1,aG,aa,a7,rfl,.inl rfl⟩
theorem fZ.read(h:fZ aq T ι aQ B s w){b off n:Nat}{l:List Value}(E:o2 s b off n=some l)(ai:aQ b){i:iP}(hi:ι b=some i):
  l.length=n∧ ∃l',dJ ι l l'∧ ∀j v,l'[j]? =some v->w.cell? ⟨i.r,i.o+off+j,none⟩=some v:=by
 unfold o2 at E;split at E;rename_i cs e bx own Y;split at E;rename_i hle;rw[eu]at hle;simp at E;have aE:=h.obj b _ i ai Y hi;subst E;have hlen:((cs.drop off).take n).length=n:=by simp;omega
 refine ⟨hlen,(List.range n).map (λj=>(w.cell? ⟨i.r,i.o+off+j,none⟩).getD undef),?_,?_⟩;refine dJ.ab3 (by simp;omega) λj v v' ad fx=>?_;have aG:j<n:=by
  have:=(nX.1 ad).1;omega
 rw[Bs,if_pos aG,Bt]at ad;obtain ⟨u,hu,eb⟩:=aE.ot (off+j) v ad;rw[<-pL]at hu;simp[aG,hu]at fx;exact fx ▸ eb;intro j v ad;have aG:j<n:=by
  have:=(nX.1 ad).1;simpa using this
 obtain ⟨u,hu,_⟩:=aE.ot (off+j) cs[off+j] (mA D);rw[<-pL]at hu;simp[aG,hu]at ad;rw[hu,ad];cases E;cases E
theorem GQ(b:Nat):∀(vs:List Value) (o:Nat) (w:World),(w.setCells b o vs).heap.size=w.heap.size
 |[],_,_=>rfl
 |v::r,o,w=>by
  simp only[World.setCells];rw[GQ b r (o+1)];simp[World.setCell]
theorem SQ(b:Nat):∀(vs:List Value) (o:Nat) (w:World) (r:Nat),r≠b->(w.setCells b o vs).heap[r]? =w.heap[r]?
 |[],_,_,_,_=>rfl
 |v::vs,o,w,r,h=>by
  simp only[World.setCells];rw[SQ b vs (o+1) _ r h];simp only[World.setCell,Array.getElem?_modify];simp[Ne.symm h]
theorem fZ.store(h:fZ aq T ι aQ B s w){b off:Nat}{l l':List Value}{s':b9}(E:wI s b off l=some s')(ai:aQ b){i:iP}(hi:ι b=some i)(Z:dJ ι l l'):
  (∀j,j<l'.length->(w.cell? ⟨i.r,i.o+off+j,none⟩).isSome=true)∧(∀j,j<l'.length->w.frozen? ⟨i.r,i.o+off+j,none⟩=false)∧(∀v∈l',v.oneCell'=true)∧
   dr aq T B ι aQ s w ι s' (w.setCells i.r (i.o+off) l'):=by
 unfold wI at E;split at E
 ·rename_i cs e bx Y;split at E
  ·rename_i hle;rw[dU,eu,fj]at hle;obtain ⟨hle,y0⟩:=hle;have aE:=h.obj b _ i ai Y hi;have hlen:=Z.length;have J:∀j,j<l'.length->(w.cell? ⟨i.r,i.o+off+j,none⟩).isSome=true:=λj aG=>by
    rw[pL];exact aE.room (off+j) D
   have U:∀j,j<l'.length->w.frozen? ⟨i.r,i.o+off+j,none⟩=false:=λj aG=>by
    rw[pL];exact (aE.nT rfl).2 (off+j) D
   have aj:∀v∈l',v.oneCell'=true:=λv ad=>by
    obtain ⟨j,aG⟩:=sO ad;have nM:j<l.length:=by rw[hlen];exact (nX.1 aG).1
    obtain ⟨v',fx,eb⟩:=Z.get (mA nM);rw[aG]at fx;cases fx;exact eb.scalar (y0 _ (tX nM))
   refine ⟨J,U,aj,?_⟩;simp at E;subst E;refine dr.write h ai Y hi rfl (.inl rfl) (GQ _ _ _ _) (λr E=>SQ _ _ _ _ _ E) ?_ (SP _ _ _ _);have sr:(gp cs off l).length=cs.length:=by simp[gp];omega
   have K8:∀j,(j<off∨off+l.length<=j)->(w.setCells i.r (i.o+off) l').cell? ⟨i.r,i.o+j,none⟩=w.cell? ⟨i.r,i.o+j,none⟩:=λj aG=>
    World.cell?_setCells_out _ _ _ _ _ λ_ _=>by simp;omega
   have tn:∀j (aG:j<l'.length),(w.setCells i.r (i.o+off) l').cell? ⟨i.r,i.o+off+j,none⟩=some l'[j]:=λj aG=>
    World.cell?_setCells_in _ _ _ _ J j aG
   refine ⟨by rw[GQ];exact aE.there,λj v aG=>?_,λj aG=>?_,aE.tight,λjL=>⟨(aE.nT rfl).1,λj aG=>?_⟩,λjL=>by simp at jL⟩;unfold gp at aG;by_cases cy:j<off;rw[K8 j (.inl cy)];rw[vi (by simp;omega),Bs,if_pos cy]at aG;exact aE.ot j v aG;rw[DW (by simp;omega)]at aG;have:(cs.take off).length=off:=by simp;omega
   rw[this]at aG;by_cases cm:j - off<l.length;rw[vi cm]at aG;obtain ⟨v',fx,eb⟩:=Z.get aG;have:=tn (j - off) D;rw[show i.o+off+(j - off)=i.o+j by omega]at this;refine ⟨v',?_,eb⟩;rw[this];rw[mA D]at fx;exact fx;rw[DW D,Bt]at aG;rw[K8 j (.inr D)];rw[show off+l.length+(j - off - l.length)=j by omega]at aG;exact aE.ot j v aG;rw[sr]at aG;exact World.isSome_setCells _ _ _ _ _ (aE.room j aG);rw[sr]at aG;rw[World.frozen?_setCells];exact (aE.nT rfl).2 j aG
  cases E
 cases E
end
section
def kindOk:Jn->TypeDesc->Prop
 |.int k,.int k'=>k=k'
 |.bool,.bool=>True
 |.string,.string=>True
 |.slice e,.slice aZ=>e=aZ
 |.array n e,.array jl aZ=>n=jl∧e=aZ
 |.struct ew,.struct fields=>ew=fields.toList.map λf=>(f.type,f.offset)
 |.pointer e,.pointer aZ=>e=aZ
 |.map k v,.map k' v'=>k=k'∧v=v'
 |.func,.func _ _ _=>True
 |.iface,.interface _=>True
 |_,_=>False
structure k0(P:Program)(t:Nat)(ti:cb):Prop where
 info:∃i,P.info? t=some i∧i.size=ti.size∧i.bytes=ti.bytes∧i.zero=some ti.zero
 under:∃d,P.underlying t=some d∧kindOk ti.kind d
 zero:tN ti.zero=true
 MV:(eJ ti.zero).length=ti.size
 parts:∀ew,ti.kind=.struct ew-> ∀x∈ew,(P.info? x.1).isSome=true
 eqs:ti.E0=true->P.eqGuardType P.depth t=false∧ ∀(xs kx:List Int) (w:World),xs.length=ti.size->kx.length=ti.size->(Op.equalIn 10000 t (.agg ⟨xs.map (Value.int .i64)⟩) (.agg ⟨kx.map (Value.int .i64)⟩)).run P w=.ok (decide (xs=kx)) w
def iF(P:Program)(T:Types):Prop:= ∀t ti,T.get t=some ti->k0 P t ti
variable {aq:Nat}{T:Types}{B:Nat}{ι:bF}{aQ:Nat->Prop}{s s':b9}{w w':World}{P:Program}
theorem MD{t:Nat}{ti:cb}(h:T.get t=some ti):zj T t=ti.size:=by simp[zj,h]
theorem k0.Mm{t:Nat}{ti:cb}(h:k0 P t ti)(w:World):(isAgg t).run P w=.ok ti.isAgg w:=by
 obtain ⟨d,ai,hk⟩:=h.under;simp only[isAgg,Sem.run_bind,run_underlying ai,Result.andThen_ok];unfold cb.isAgg;cases CO:ti.kind<;>rw[CO]at hk<;>cases d<;>simp[kindOk]at hk ⊢
theorem k0.run_sizeOf{t:Nat}{ti:cb}(h:k0 P t ti)(w:World):(sizeOf t).run P w=.ok ti.size w:=by
 obtain ⟨i,hi,ae,_⟩:=h.info;simp[sizeOf,typeInfo,hi,ae]
theorem k0.DB{t:Nat}{ti:cb}(h:k0 P t ti)(w:World):(zeroValue t).run P w=.ok ti.zero w:=by
 obtain ⟨i,hi,_,_,aY⟩:=h.info;simp[zeroValue,typeInfo,hi,aY]
theorem k0.slice{t e:Nat}{ti:cb}(h:k0 P t ti)(hk:ti.kind=.slice e):P.underlying t=some (.slice e):=by
 obtain ⟨d,ai,fS⟩:=h.under;rw[hk]at fS;cases d<;>simp[kindOk]at fS;subst fS;exact ai
theorem k0.array{t n e:Nat}{ti:cb}(h:k0 P t ti)(hk:ti.kind=.array n e):P.underlying t=some (.array n e):=by
 obtain ⟨d,ai,fS⟩:=h.under;rw[hk]at fS;cases d<;>simp[kindOk]at fS;obtain ⟨rfl,rfl⟩:=fS;exact ai
theorem k0.map{t k v:Nat}{ti:cb}(h:k0 P t ti)(hk:ti.kind=.map k v):P.underlying t=some (.map k v):=by
 obtain ⟨d,ai,fS⟩:=h.under;rw[hk]at fS;cases d<;>simp[kindOk]at fS;obtain ⟨rfl,rfl⟩:=fS;exact ai
theorem k0.int{t:Nat}{k:IntKind}{ti:cb}(h:k0 P t ti)(hk:ti.kind=.int k):P.underlying t=some (.int k):=by
 obtain ⟨d,ai,fS⟩:=h.under;rw[hk]at fS;cases d<;>simp[kindOk]at fS;subst fS;exact ai
theorem k0.string{t:Nat}{ti:cb}(h:k0 P t ti)(hk:ti.kind=.string):P.underlying t=some .string:=by
 obtain ⟨d,ai,fS⟩:=h.under;rw[hk]at fS;cases d<;>simp[kindOk]at fS;exact ai
theorem k0.bool{t:Nat}{ti:cb}(h:k0 P t ti)(hk:ti.kind=.bool):P.underlying t=some .bool:=by
 obtain ⟨d,ai,fS⟩:=h.under;rw[hk]at fS;cases d<;>simp[kindOk]at fS;exact ai
theorem k0.pointer{t e:Nat}{ti:cb}(h:k0 P t ti)(hk:ti.kind=.pointer e):P.underlying t=some (.pointer e):=by
 obtain ⟨d,ai,fS⟩:=h.under;rw[hk]at fS;cases d<;>simp[kindOk]at fS;subst fS;exact ai
theorem k0.func{t:Nat}{ti:cb}(h:k0 P t ti)(hk:ti.kind=.func):∃a b c,P.underlying t=some (.func a b c):=by
 obtain ⟨d,ai,fS⟩:=h.under;rw[hk]at fS;cases d<;>simp[kindOk]at fS;exact ⟨_,_,_,ai⟩
theorem k0.struct{t:Nat}{ew:List (Nat×Nat)}{ti:cb}(h:k0 P t ti)(hk:ti.kind=.struct ew):
  ∃fields,P.underlying t=some (.struct fields)∧ew=fields.toList.map λf=>(f.type,f.offset):=by
 obtain ⟨d,ai,fS⟩:=h.under;rw[hk]at fS;cases d<;>simp[kindOk]at fS;exact ⟨_,ai,fS⟩
theorem vy(r o n:Nat):(⟨r,o,none⟩:Addr).add n=⟨r,o+n,none⟩:=by
 unfold Addr.add;split<;>simp_all
theorem ab9(cA:iF P T)(h:fZ aq T ι aQ B s w){t:Nat}{ti:cb}(aO:T.get t=some ti){a:Addr}{p:Value}(al:cE ι (.pointer (some a)) p)(ai:aQ a.block){v:Value}
  (Z:loadT ti s a=some v):∃v',(Instr.loadAt t p).run P w=.ok v' w∧cE ι v v':=by
 cases al with
 |ptr b o i hi=>
  have ok:=cA t ti aO;unfold loadT at Z;cases xn:ti.isAgg with
  |true=>
   simp only[xn]at Z;split at Z;rename_i l E;obtain ⟨hlen,l',eb,aa⟩:=h.read E ai hi;simp at Z;subst Z;refine ⟨.agg ⟨l'⟩,?_,.agg _ _ eb⟩;have:=run_loadCells_list (P:=P) w ⟨i.r,i.o+o,none⟩ l' (λj v aG=>by rw[vy];exact aa j v aG);rw[<-eb.length,hlen]at this;simp only[Instr.loadAt,Instr.sureAddr,loadVar,Sem.run_bind,Sem.run_pure,Result.andThen_ok,ok.Mm,xn,if_true,ok.run_sizeOf,this];cases Z
  |false=>
   simp only[xn]at Z;split at Z;rename_i u r E;obtain ⟨hlen,l',eb,aa⟩:=h.read E ai hi;simp at Z;subst Z;cases eb with
   |cons _ v' _ l' ad dK=>
    refine ⟨v',?_,ad⟩;have:=aa 0 v' rfl;rw[zs]at this;simp[Instr.loadAt,Instr.sureAddr,loadVar,ok.Mm,xn,this]
   cases Z
theorem ap4(cA:iF P T)(h:fZ aq T ι aQ B s w){t:Nat}{ti:cb}(aO:T.get t=some ti){a:Addr}{p:Value}(al:cE ι (.pointer (some a)) p)(ai:aQ a.block){v v':Value}(ad:cE ι v v')
  (Z:storeT ti s a v=some s'):∃w',(Instr.storeAt t p v').run P w=.ok () w'∧dr aq T B ι aQ s w ι s' w':=by
 cases al with
 |ptr b o i hi=>
  have ok:=cA t ti aO;unfold storeT at Z;split at Z;rename_i a5;have a5:=kj a5;obtain ⟨J,U,aj,aH⟩:=h.store Z ai hi ad.eJ;have jx:=run_storeCells_cells (P:=P) i.r (i.o+o) v'.cells.toList 0 w (by simpa using J) (by simpa using U) aj;have hlen:=ad.eJ.length;have iN:v'.cells.size=ti.size:=by rw[<-a5,hlen,zt]
  refine ⟨_,?_,aH⟩;simp[Instr.storeAt,Instr.sureAddr,storeVar,ok.run_sizeOf,iN,jx];cases Z
theorem XD{w':World}{c:Array Value}{e:Nat}(hw:w'.heap=w.heap.push (.cells c e (0,0)))(j:Nat):w'.cell? ⟨w.heap.size,j,none⟩=c[j]? :=by
 simp[World.cell?,hw]
theorem akd{w':World}{c:Array Value}{e:Nat}(hw:w'.heap=w.heap.push (.cells c e (0,0)))(j:Nat):w'.frozen? ⟨w.heap.size,j,none⟩=false:=by
 simp[World.frozen?,hw]
theorem dr.cells(h:fZ aq T ι aQ B s w){cs cs' more:List Value}{e:Nat}(bx:Bool)(x:Nat)(hw:w'.heap=w.heap.push (.cells (cs'++more).toArray e (0,0)))(aa:dJ ι cs cs')
  (hm:x*zj T e<=more.length) (hx:bx=false->x=0) (fv:w'.os=w.os∧w'.output=w.output:=by exact ⟨rfl,rfl⟩):dr aq T B ι aQ s w (ι.add s.n ⟨w.heap.size,0,x⟩) (newObj s (.cells cs e bx true)) w':=by
 have Y:=h.base;have hlen:=aa.length;refine dr.new h _ _ x hw ⟨by rw[hw];simp,λj v aG=>?_,λj aG=>?_,hx,λ_=>⟨Y,λj _=>akd hw _⟩,λaM=>by simp at aM⟩ fv;obtain ⟨v',fx,eb⟩:=aa.get aG;refine ⟨v',?_,eb.mono (bF.Dd h.lt _)⟩;rw[XD hw,gD];simp[vi (show j<cs'.length from (nX.1 fx).1),fx];rw[XD hw,gD];simp at aG ⊢;omega
theorem acb(h:fZ aq T ι aQ B s w){t:Nat}{v v':Value}(ad:cE ι v v'){r:Value}(E:rN s (eJ v) t false=(r,s')):
  ∃bI a w',(newVar t v').run P w=.ok a w'∧cE bI r (.pointer (some a))∧dr aq T B ι aQ s w bI s' w':=by
 simp[rN]at E;obtain ⟨rfl,rfl⟩:=E;have au:=dr.cells (w':=w.alloc (.cells v'.cells t)) (s:=s) h (e:=t) (more:=[]) false 0 (by show w.heap.push _=_;simp) ad.eJ (by simp) (λ_=>rfl);refine ⟨_,⟨w.heap.size,0,none⟩,_,by simp[newVar,newRow],?_,au⟩;exact cE.ptr (ι:=ι.add s.n ⟨w.heap.size,0,0⟩) s.n 0 _ (bF.add_same _ _ _)
theorem apN(cA:iF P T)(h:fZ aq T ι aQ B s w){t:Nat}{ti:cb}(aO:T.get t=some ti){r:Value}(E:rN s (eJ ti.zero) t false=(r,s')):
  ∃bI v' w',(Instr.alloc t true (.tuple #[])).run P w=.ok v' w'∧cE bI r v'∧dr aq T B ι aQ s w bI s' w':=by
 have ok:=cA t ti aO;obtain ⟨bI,a,w',J,U,aj⟩:=acb (P:=P) h (cE.xP ok.zero) E;exact ⟨bI,_,w',by simp[Instr.alloc,ok.DB,J],U,aj⟩
theorem apP(h:fZ aq T ι aQ B s w){t:Nat}{v v':Value}(ad:cE ι v v'){r:Value}(E:rN s (eJ v) t false=(r,s')):
  ∃bI u w',(Instr.box t v').run P w=.ok u w'∧cE bI r u∧dr aq T B ι aQ s w bI s' w':=by
 obtain ⟨bI,a,w',J,U,aj⟩:=acb (P:=P) h ad E;exact ⟨bI,_,w',by simp[Instr.box,J],U,aj⟩
end
section
variable {aq:Nat}{T:Types}{B:Nat}{ι:bF}{aQ:Nat->Prop}{s s':b9}{w w':World}{P:Program}
theorem drop_cons{α:Type}{l r:List α}{n:Nat}{x:α}(h:l.drop n=x::r):l[n]? =some x:=by
 have:(l.drop n)[0]? =some x:=by rw[h];rfl
 rw[Bt]at this;simpa using this
theorem acd(cA:iF P T){t:Nat}{ti:cb}(aO:T.get t=some ti){cs cs':List Value}(aa:dJ ι cs cs'){off:Nat}{v:Value}(al:part ti cs off=some v)(w:World):
  ∃v',(Go.part t ⟨cs'⟩ off).run P w=.ok v' w∧cE ι v v':=by
 have ok:=cA t ti aO;unfold part at al;cases xn:ti.isAgg with
 |true=>
  simp only[xn]at al;split at al;rename_i hle;rw[eu]at hle;simp at al;subst al;refine ⟨.agg ⟨(cs'.drop off).take ti.size⟩,?_,.agg _ _ ((aa.drop _).take _)⟩;simp only[Go.part,Sem.run_bind,ok.Mm,Result.andThen_ok,xn,if_true,ok.run_sizeOf,Sem.run_pure];congr 2;apply Array.ext';simp[List.extract_eq_take_drop];cases al
 |false=>
  simp only[xn]at al;split at al;rename_i u r E;simp at al;subst al;obtain ⟨v',fx,eb⟩:=aa.get (drop_cons E);refine ⟨v',?_,eb⟩;simp[Go.part,ok.Mm,xn,fx];cases al
theorem S6{fields:Array Field}{ew:List (Nat×Nat)}(h:ew=fields.toList.map λf=>(f.type,f.offset)){f jU off:Nat}{r:List (Nat×Nat)}(ai:ew.drop f=(jU,off)::r):
  ∃F:Field,fields[f]? =some F∧F.type=jU∧F.offset=off:=by
 have:=drop_cons ai;rw[h,Bu]at this;cases eO:fields.toList[f]? with
 |none=>simp[eO]at this
 |some F=>
  simp[eO]at this;exact ⟨F,by simpa using eO,this.1,this.2⟩
theorem apW(cA:iF P T){t:Nat}{x x':Value}(hx:cE ι x x'){f:Nat}{v:Value}(Z:s6 T t x f=some v)(w:World):
  ∃v',(Instr.field t x' f).run P w=.ok v' w∧cE ι v v':=by
 unfold s6 at Z;split at Z;rename_i ew _ _ _ cs aO;split at Z;rename_i jU off r m9;split at Z;rename_i ti ss;have ok:=cA t _ aO;obtain ⟨fields,hu,yN⟩:=ok.struct rfl;obtain ⟨F,eO,rfl,rfl⟩:=S6 yN m9;cases hx with
 |agg l l' dK=>
  obtain ⟨v',J,U⟩:=acd (P:=P) cA ss dK Z w;exact ⟨v',by simp[Instr.field,run_underlying hu,eO,asAgg,J],U⟩
 cases Z;cases Z;cases Z
theorem apX(cA:iF P T){t:Nat}{x x':Value}(hx:cE ι x x'){f:Nat}{v:Value}(Z:s5 T t x f=some v)(w:World):
  ∃v',(Instr.fieldAt t x' f).run P w=.ok v' w∧cE ι v v':=by
 unfold s5 at Z;split at Z;rename_i ew _ _ _ a aO;split at Z;rename_i jU off r m9;split at Z;rename_i ti ss;split at Z;rename_i yW;rw[gy]at yW;have ok:=cA t _ aO;have apK:=cA jU _ ss;obtain ⟨fields,hu,yN⟩:=ok.struct rfl;obtain ⟨F,eO,rfl,rfl⟩:=S6 yN m9;simp at Z;subst Z;cases hx with
 |ptr b o i hi=>
  refine ⟨_,?_,cE.ptr b (o+F.offset) i hi⟩;have ey: ¬ti.size=0:=D;simp[Instr.fieldAt,run_underlying hu,eO,Instr.sureAddr,fieldPlace,apK.run_sizeOf,ey,vy,pL]
 cases Z;cases Z;cases Z;cases Z
theorem apZ(cA:iF P T){t:Nat}{x x' c1 y9:Value}(hx:cE ι x x')(hl:cE ι c1 y9){v:Value}(Z:tz T t x c1=some v)(w:World):
  ∃v',(Instr.indexAt t x' y9).run P w=.ok v' w∧cE ι v v':=by
 unfold tz at Z;split at Z;rename_i e _ _ _ a len _ k i aO;split at Z;rename_i te dv;split at Z;rename_i Y;have ok:=cA t _ aO;have hX:=cA e _ dv;have hu:=ok.slice rfl;simp at Z;subst Z;cases hl;cases hx with
 |slice b o l c bj j aG J U=>
  refine ⟨_,?_,cE.ptr b (o+i.toNat*te.size) j aG⟩;simp[Instr.indexAt,asIntOf,run_underlying hu,Y,hX.run_sizeOf,vy,pL]
 |lW a a8 i fw=>simp at Y;omega
 cases Z;cases Z;rename_i len e _ _ _ a k i aO;split at Z;rename_i te dv;split at Z;rename_i Y;have ok:=cA t _ aO;have hX:=cA e _ dv;have hu:=ok.array rfl;simp at Z;subst Z;cases hl;cases hx with
 |ptr b o j aG=>
  refine ⟨_,?_,cE.ptr b (o+i.toNat*te.size) j aG⟩;simp[Instr.indexAt,asIntOf,run_underlying hu,Y,hX.run_sizeOf,vy,pL,Instr.sureAddr]
 cases Z;cases Z;cases Z
theorem apY(cA:iF P T){t:Nat}{x x' c1 y9:Value}(hx:cE ι x x')(hl:cE ι c1 y9){v:Value}(Z:sv T t x c1=some v)(w:World):
  ∃v',(Instr.index t x' y9).run P w=.ok v' w∧cE ι v v':=by
 unfold sv at Z;split at Z;rename_i len e _ _ _ cs k i aO;split at Z;rename_i te dv;split at Z;rename_i Y;have ok:=cA t _ aO;have hX:=cA e _ dv;have hu:=ok.array rfl;cases hl;cases hx with
 |agg l l' dK=>
  obtain ⟨v',J,U⟩:=acd (P:=P) cA dv dK Z w;exact ⟨v',by simp[Instr.index,asIntOf,run_underlying hu,Y,hX.run_sizeOf,J],U⟩
 cases Z;cases Z;rename_i _ _ _ st k i aO;split at Z;rename_i Y;split at Z;rename_i b r alP;have ok:=cA t _ aO;have hu:=ok.string rfl;cases hl;cases hx;simp at Z;subst Z;have ai:=drop_cons alP;refine ⟨_,?_,.int _ _⟩;have ae:st[i.toNat]? =some b:=by
  have b6:i.toNat<st.data.toList.length:=(nX.1 ai).1;have CP:i.toNat<st.size:=by rw[zt]at b6;exact b6
  rw[getElem?_pos st i.toNat CP];rw[mA b6,Array.getElem_toList]at ai;exact ai
 simp[Instr.index,asIntOf,run_underlying hu,Y,ae];cases Z;cases Z;cases Z
theorem apV{x x':Value}(hx:cE ι x x'){n:Nat}{vs:Array Value}(ad:x=.tuple vs){v:Value}{r:List Value}(Z:vs.toList.drop n=v::r)(w:World):
  ∃v',(Instr.extract x' n).run P w=.ok v' w∧cE ι v v':=by
 subst ad;cases hx with
 |tuple l l' h=>
  obtain ⟨v',fx,eb⟩:=h.get (drop_cons Z);exact ⟨v',by simp[Instr.extract,fx],eb⟩
def qq(ι:bF):Option Value->Option Value->Prop
 |none,none=>True
 |some v,some v'=>cE ι v v'
 |_,_=>False
theorem Mk{x v':Value}{rK AK dflt n:Nat}(ad:cE ι x v')(hle:rK<=AK)(Y:bound (some x) rK dflt=some n)(code:BoundsCode)(w:World):
  (Instr.sliceBound v' AK code).run P w=.ok n w∧n<=rK:=by
 unfold bound at Y;split at Y;rename_i h;cases h;rename_i k i h;cases h;split at Y;rename_i hi;simp at Y;subst Y;cases ad;have:0<=i∧i<=(AK:Int):=D;exact ⟨by simp[Instr.sliceBound,asIntOf,this],D⟩;cases Y;cases Y
theorem GL{lo oZ hi fw dk oh:Option Value}(ih:qq ι lo oZ)(jw:qq ι hi fw)(lP:qq ι dk oh)(jK:hi=none->dk=none){len cap cap' m h l:Nat}(m8:cap<=cap')
  (hg:bound dk cap cap=some m) (s0:bound hi m len=some h) (hf:bound lo h 0=some l) (anU:Bool) (w:World):
  ∃jA,(Instr.sliceBounds anU len cap' oZ fw oh).run P w=.ok (l,h,jA) w∧(jA=m∧m<=cap∨m=cap∧jA=cap')∧(lo≠none->l<=h)∧(lo=none->l=0):=by
 have Z:∀code,(match oZ with
   |some v=>Instr.sliceBound v h code
   |none=>pure 0:Sem Nat).run P w=.ok l w∧(lo≠none->l<=h)∧(lo=none->l=0):=λcode=>by
  cases lo with
  |none=>
   cases oZ with
   |none=>simp[bound]at hf;subst hf;simp
   |some v=>exact ih.elim
  |some x=>
   cases oZ with
   |none=>exact ih.elim
   |some v=>
    have:=Mk (P:=P) ih (cg h) hf code w;exact ⟨this.1,λ_=>this.2,λh=>by cases h⟩
 cases dk with
 |none=>
  cases oh with
  |some v=>exact lP.elim
  |none=>
   simp[bound]at hg;subst hg;refine ⟨cap',?_,.inr ⟨rfl,rfl⟩,(Z .sliceB).2⟩;have ig:=(Z .sliceB).1;cases hi with
   |none=>
    cases fw with
    |some v=>exact jw.elim
    |none=>
     simp[bound]at s0;subst s0;cases oZ with
     |none=>
      simp at ig;subst ig;simp[Instr.sliceBounds]
     |some kS=>
      simp at ig;simp[Instr.sliceBounds,ig]
   |some x=>
    cases fw with
    |none=>exact jw.elim
    |some v=>
     have Y:=λcode=>(Mk (P:=P) jw m8 s0 code w).1;cases oZ with
     |none=>
      simp at ig;subst ig;simp[Instr.sliceBounds,Y]
     |some kS=>
      simp at ig;simp[Instr.sliceBounds,Y,ig]
 |some y=>
  cases oh with
  |none=>exact lP.elim
  |some u=>
   have hm:=λcode=>Mk (P:=P) lP m8 hg code w;refine ⟨m,?_,.inl ⟨rfl,(hm .slice3B).2⟩,(Z .slice3C).2⟩;have ig:=(Z .slice3C).1;cases hi with
   |none=>simp at jK
   |some x=>
    cases fw with
    |none=>exact jw.elim
    |some v=>
     have Y:=λcode=>(Mk (P:=P) jw (cg m) s0 code w).1;cases oZ with
     |none=>
      simp at ig;subst ig;simp[Instr.sliceBounds,(hm _).1,Y]
     |some kS=>
      simp at ig;simp[Instr.sliceBounds,(hm _).1,Y,ig]
theorem ap3(cA:iF P T){t:Nat}{x x':Value}{lo oZ hi fw dk oh:Option Value}(hx:cE ι x x')(ih:qq ι lo oZ)(jw:qq ι hi fw)(lP:qq ι dk oh)(jK:hi=none->dk=none)
  {v:Value} (Z:nU T t x lo hi dk=some v) (w:World):∃v',(Instr.sliceAt t x' oZ fw oh).run P w=.ok v' w∧cE ι v v':=by
 unfold nU at Z;split at Z;cases Z;rename_i ti aO;have ok:=cA t ti aO;split at Z;rename_i st hk;have hu:=ok.string hk;split at Z;cases Z;split at Z;cases Z;rename_i h s0;split at Z;cases Z;rename_i l hf;simp at Z;subst Z;cases hx;have yT:oh=none:=by cases oh with
  |none=>rfl
  |some v=>exact lP.elim
 subst yT;obtain ⟨jA,J,_⟩:=GL (P:=P) (len:=st.size) (cap:=st.size) (cap':=st.size) ih jw (show qq ι none none from trivial) (λ_=>rfl) (cg _) rfl s0 hf false w;refine ⟨_,?_,.string _⟩;simp[Instr.sliceAt,run_underlying hu,Instr.slice,J];rename_i e a len cap hk;have hu:=ok.slice hk;split at Z;cases Z;rename_i te dv;have hX:=cA e te dv;split at Z;cases Z;rename_i m hg;split at Z;cases Z;rename_i h s0;split at Z;rename_i l hf hle;rw[eu]at hle;cases hx with
 |xV l' bj=>
  simp at Z;subst Z;obtain ⟨jA,J,kI,_⟩:=GL (P:=P) ih jw lP jK (cg _) hg s0 hf true w;have:jA=m:=by rcases kI with ⟨e,_⟩|⟨e,aZ⟩<;>omega
  subst this;refine ⟨_,?_,.xV _ _⟩;simp[Instr.sliceAt,run_underlying hu,Instr.slice,J,hX.run_sizeOf]
 |slice b o l' bj ai5 i fw iT jW=>
  simp at Z;subst Z;obtain ⟨jA,J,kI,ig,mj⟩:=GL (P:=P) ih jw lP jK iT hg s0 hf true w;have KY:l<=h:=by
   by_cases e:lo=none;rw[mj e];omega;exact ig e
  have pq:m<=jA:=by rcases kI with ⟨e,_⟩|⟨e,aZ⟩<;>omega
  by_cases e:jA=l;refine ⟨.slice (some ⟨i.r,i.o+o,none⟩) 0 0,?_,?_⟩;have aC:h - l=0:=D;simp[Instr.sliceAt,run_underlying hu,Instr.slice,J,hX.run_sizeOf,e,aC];have aC:h - l=0:=D;have ba:m - l=0:=D;rw[aC,ba];exact .lW _ _ i fw;refine ⟨.slice (some ⟨i.r,i.o+(o+l*te.size),none⟩) (h - l) (jA - l),?_,.slice _ _ _ _ _ i fw D (by rcases kI with ⟨e,_⟩|⟨e,aZ⟩<;>omega)⟩;simp[Instr.sliceAt,run_underlying hu,Instr.slice,J,hX.run_sizeOf,e,vy,pL]
 |lW a a8 i fw=>
  simp at Z;subst Z;obtain ⟨jA,J,kI,ig,mj⟩:=GL (P:=P) ih jw lP jK (cg _) hg s0 hf true w;have FL:m=0:=by rcases kI with ⟨e,_⟩|⟨e,aZ⟩<;>omega
  have amE:jA=0:=by rcases kI with ⟨e,_⟩|⟨e,aZ⟩<;>omega
  have xx:l=0:=by
   by_cases e:lo=none;exact mj e;have:=ig e;omega
  have amk:h=0:=D;subst FL amE xx amk;refine ⟨.slice (some a8) 0 0,?_,.lW _ _ i fw⟩;simp[Instr.sliceAt,run_underlying hu,Instr.slice,J,hX.run_sizeOf]
 cases Z;rename_i n e a hk;have hu:=ok.array hk;split at Z;cases Z;rename_i te dv;have hX:=cA e te dv;split at Z;cases Z;rename_i m hg;split at Z;cases Z;rename_i h s0;split at Z;rename_i l hf hle;rw[eu]at hle;simp at Z;subst Z;cases hx with
 |ptr b o i fw=>
  obtain ⟨jA,J,kI,ig,mj⟩:=GL (P:=P) ih jw lP jK (cg _) hg s0 hf false w;have KY:l<=h:=by
   by_cases e:lo=none;rw[mj e];omega;exact ig e
  have pq:jA=m:=by rcases kI with ⟨e,_⟩|⟨e,aZ⟩<;>omega
  subst pq;by_cases e:jA=l;refine ⟨.slice (some ⟨i.r,i.o+o,none⟩) 0 0,?_,?_⟩;have aC:h - l=0:=D;simp[Instr.sliceAt,run_underlying hu,Instr.sureAddr,J,hX.run_sizeOf,e,aC];have aC:h - l=0:=D;have ba:jA - l=0:=D;rw[aC,ba];exact .lW _ _ i fw;refine ⟨.slice (some ⟨i.r,i.o+(o+l*te.size),none⟩) (h - l) (jA - l),?_,.slice _ _ _ _ _ i fw (cg _) D⟩;simp[Instr.sliceAt,run_underlying hu,Instr.sureAddr,J,hX.run_sizeOf,e,vy,pL]
 cases Z;cases Z
end
end Go.ah
