/-
  A part of the proof of PromiseBytes: lemmas, in short letters, printed by a program out of the longer texts; conditions: those that each lemma names.
-/
import Derived.Deep.AppendSrc
import Derived.Deep.Upon
import Derived.Deep.MidRow
import Derived.RangeFuncRecord
import Derived.Test.YtalmddmghdinkaaGreatDoorA
set_option linter.all false
set_option linter.deprecated false
noncomputable section
namespace Go.Vm
open Go
structure lC where
 r:Nat
 o:Nat
 x:Nat
abbrev bN:=Nat→Option lC
def bN.le (ι ι':bN):Prop:= ∀b i,ι b=some i→ι' b=some i
theorem bN.le_refl (ι:bN):ι.le ι:=fun _ _ h=>h
theorem bN.le_trans {ι ι' ua:bN} (h:ι.le ι') (h':ι'.le ua):ι.le ua:=fun b i hb=>h' b i (h b i hb)
mutual
inductive bj (ι:bN):Value→Value→Prop
 |bool (b:Bool):bj ι (.bool b) (.bool b)
 |int (k:IntKind) (n:Int):bj ι (.int k n) (.int k n)
 |string (s:ByteArray):bj ι (.string s) (.string s)
 |nilFunc:bj ι .nilFunc .nilFunc
 |nilIface:bj ι .nilIface .nilIface
 |xg:bj ι (.pointer none) (.pointer none)
 |ptr (b o:Nat) (i:lC) (h:ι b=some i):bj ι (.pointer (some ⟨b,o,none⟩)) (.pointer (some ⟨i.r,i.o+o,none⟩))
 |oI (l c:Nat):bj ι (.slice none l c) (.slice none l c)
 |slice (b o l c c':Nat) (i:lC) (h:ι b=some i) (h1:c≤c') (h2:c'≤c+i.x):
   bj ι (.slice (some ⟨b,o,none⟩) l c) (.slice (some ⟨i.r,i.o+o,none⟩) l c')
 |eA (a a':Addr) (i:lC) (h:ι a.block=some i):bj ι (.slice (some a) 0 0) (.slice (some a') 0 0)
 |w9:bj ι (.map none) (.map none)
 |map (b:Nat) (i:lC) (h:ι b=some i):bj ι (.map (some b)) (.map (some i.r))
 |func (f:Nat) (a a' b b':List Value) (ha:bg ι a a') (hb:bg ι b b'):bj ι (.func (.func f) ⟨a⟩ ⟨b⟩) (.func (.func f) ⟨a'⟩ ⟨b'⟩)
 |yield (l:Nat) (i:lC) (h:ι l=some i):bj ι (.func (.yield l) #[] #[]) (.func (.yield i.r) #[] #[])
 |agg (l l':List Value) (h:bg ι l l'):bj ι (.agg ⟨l⟩) (.agg ⟨l'⟩)
 |tuple (l l':List Value) (h:bg ι l l'):bj ι (.tuple ⟨l⟩) (.tuple ⟨l'⟩)
inductive bg (ι:bN):List Value→List Value→Prop
 |nil:bg ι [] []
 |cons (v v':Value) (l l':List Value) (h:bj ι v v') (hl:bg ι l l'):bg ι (v::l) (v'::l')
end
mutual
theorem bj.mono {ι ι':bN} (hi:ι.le ι'): ∀ {v v':Value},bj ι v v'→bj ι' v v'
 |_,_,.bool b=> .bool b
 |_,_,.int k n=> .int k n
 |_,_,.string s=> .string s
 |_,_,.nilFunc=> .nilFunc
 |_,_,.nilIface=> .nilIface
 |_,_,.xg=> .xg
 |_,_,.ptr b o i h=> .ptr b o i (hi _ _ h)
 |_,_,.oI l c=> .oI l c
 |_,_,.slice b o l c c' i h h1 h2=> .slice b o l c c' i (hi _ _ h) h1 h2
 |_,_,.eA a a' i h=> .eA a a' i (hi _ _ h)
 |_,_,.w9=> .w9
 |_,_,.map b i h=> .map b i (hi _ _ h)
 |_,_,.func f a a' b b' ha hb=> .func f a a' b b' (bg.mono hi ha) (bg.mono hi hb)
 |_,_,.yield l i h=> .yield l i (hi _ _ h)
 |_,_,.agg l l' h=> .agg l l' (bg.mono hi h)
 |_,_,.tuple l l' h=> .tuple l l' (bg.mono hi h)
theorem bg.mono {ι ι':bN} (hi:ι.le ι'): ∀ {l l':List Value},bg ι l l'→bg ι' l l'
 |_,_,.nil=> .nil
 |_,_,.cons v v' l l' h hl=> .cons v v' l l' (bj.mono hi h) (bg.mono hi hl)
end
mutual
theorem bj.narrow {ι ι':bN} (hi:ι.le ι'): ∀ {v v₁ v₂:Value},bj ι v v₁→bj ι' v v₂→bj ι v v₂
 |_,_,_,.bool b,h=>by cases h;exact .bool b
 |_,_,_,.int k n,h=>by cases h;exact .int k n
 |_,_,_,.string s,h=>by cases h;exact .string s
 |_,_,_,.nilFunc,h=>by cases h;exact .nilFunc
 |_,_,_,.nilIface,h=>by cases h;exact .nilIface
 |_,_,_,.xg,h=>by cases h;exact .xg
 |_,_,_,.ptr b o i h₁,h=>by
  cases h with
  |ptr _ _ i' h₂=>
   have:=hi _ _ h₁
   rw [h₂] at this
   cases this
   exact .ptr b o _ h₁
 |_,_,_,.oI l c,h=>by cases h;exact .oI l c
 |_,_,_,.slice b o l c c' i h₁ _ _,h=>by
  cases h with
  |slice _ _ _ _ VU i' h₂ k1 k2=>
   have:=hi _ _ h₁
   rw [h₂] at this
   cases this
   exact .slice b o l c VU _ h₁ k1 k2
  |eA a a' i' h₂=>exact .eA _ _ i h₁
 |_,_,_,.eA a a' i h₁,h=>by
  cases h with
  |slice b o _ _ VU i' h₂ k1 k2=>
   have:=hi _ _ h₁
   simp only [] at this
   rw [h₂] at this
   cases this
   exact .slice b o 0 0 VU _ h₁ k1 k2
  |eA _ a'' i' h₂=>exact .eA _ _ i h₁
 |_,_,_,.w9,h=>by cases h;exact .w9
 |_,_,_,.map b i h₁,h=>by
  cases h with
  |map _ i' h₂=>
   have:=hi _ _ h₁
   rw [h₂] at this
   cases this
   exact .map b _ h₁
 |_,_,_,.func f a a' b b' ha hb,h=>by
  cases h with
  |func _ _ _ _ _ k1 k2=>exact .func _ _ _ _ _ (bg.narrow hi ha k1) (bg.narrow hi hb k2)
 |_,_,_,.yield l i h₁,h=>by
  cases h with
  |yield _ i' h₂=>
   have:=hi _ _ h₁
   rw [h₂] at this
   cases this
   exact .yield l _ h₁
 |_,_,_,.agg l l' hl,h=>by
  cases h with
  |agg _ _ k=>exact .agg _ _ (bg.narrow hi hl k)
 |_,_,_,.tuple l l' hl,h=>by
  cases h with
  |tuple _ _ k=>exact .tuple _ _ (bg.narrow hi hl k)
theorem bg.narrow {ι ι':bN} (hi:ι.le ι'): ∀ {l l₁ l₂:List Value},bg ι l l₁→bg ι' l l₂→bg ι l l₂
 |_,_,_,.nil,h=>by cases h;exact .nil
 |_,_,_,.cons v v' l l' hv hl,h=>by
  cases h with
  |cons _ _ _ _ k1 k2=>exact .cons _ _ _ _ (bj.narrow hi hv k1) (bg.narrow hi hl k2)
end
theorem bg.length {ι:bN} {l l':List Value} (h:bg ι l l'):l.length=l'.length:=by
 induction l generalizing l' with
 |nil=>cases h;rfl
 |cons v l ih=>cases h with|cons _ v' _ l' h hl=>simp [ih hl]
theorem bg.get {ι:bN} {l l':List Value} (h:bg ι l l') {j:Nat} {v:Value} (hj:l[j]? =some v): ∃v',l'[j]? =some v'∧bj ι v v':=by
 induction l generalizing l' j with
 |nil=>simp at hj
 |cons u l ih=>
  cases h with
  |cons _ u' _ l' h hl=>
   cases j with
   |zero=>simp at hj;subst hj;exact ⟨u',rfl,h⟩
   |succ j=>simp at hj;simpa using ih hl hj
theorem bg.append {ι:bN} {a a' b b':List Value} (ha:bg ι a a') (hb:bg ι b b'):bg ι (a++b) (a'++b'):=by
 induction a generalizing a' with
 |nil=>cases ha;exact hb
 |cons v a ih=>cases ha with|cons _ v' _ a' h hl=>exact .cons _ _ _ _ h (ih hl)
theorem bg.take {ι:bN} {a a':List Value} (ha:bg ι a a') (n:Nat):bg ι (a.take n) (a'.take n):=by
 induction a generalizing a' n with
 |nil=>cases ha;simp;exact .nil
 |cons v a ih=>cases ha with
  |cons _ v' _ a' h hl=>cases n with
   |zero=>exact .nil
   |succ n=>exact .cons _ _ _ _ h (ih hl n)
theorem bg.drop {ι:bN} {a a':List Value} (ha:bg ι a a') (n:Nat):bg ι (a.drop n) (a'.drop n):=by
 induction a generalizing a' n with
 |nil=>cases ha;simp;exact .nil
 |cons v a ih=>cases ha with
  |cons _ v' _ a' h hl=>cases n with
   |zero=>exact .cons _ _ _ _ h hl
   |succ n=>exact ih hl n
theorem bg.EH {ι:bN} : ∀ {l l':List Value},l.length=l'.length→(∀(j:Nat) (v v':Value),l[j]? =some v→l'[j]? =some v'→bj ι v v')→bg ι l l'
 | [], [],_,_=> .nil
 | [],_::_,h,_=>by simp at h
 |_::_, [],h,_=>by simp at h
 |v::l,v'::l',h,hh=> .cons _ _ _ _ (hh 0 v v' rfl rfl) (bg.EH (by simpa using h) (fun j u u' hu xT=>hh (j+1) u u' (by simpa using hu) (by simpa using xT)))
theorem bg.bY {ι:bN} {a a' b b':List Value} (ha:bg ι a a') (hb:bg ι b b') (off:Nat):bg ι (bY a off b) (bY a' off b'):=by
 unfold Vm.bY
 rw [hb.length]
 exact (ha.take off).append (hb.append (ha.drop _))
theorem bj.undef (ι:bN):bj ι undef undef:= .tuple [] [] .nil
theorem bj.bc {ι:bN} {v v':Value} (h:bj ι v v'):bg ι (bc v) v'.cells.toList:=by
 cases h<;>first|exact .cons _ _ _ _ (by constructor<;>assumption) .nil|assumption
theorem bj.scalar {ι:bN} {v v':Value} (h:bj ι v v') (hs:scalar v=true):v'.oneCell'=true:=by
 cases h<;>first|rfl|(simp [Vm.scalar] at hs)
def plain:Value→Bool
 | .bool _=>true
 | .int _ _=>true
 | .string _=>true
 | .pointer none=>true
 | .slice none _ _=>true
 | .map none=>true
 | .nilFunc=>true
 | .nilIface=>true
 | .func (.func _) ⟨[]⟩ ⟨[]⟩=>true
 | .tuple ⟨[]⟩=>true
 |_=>false
def iM:Value→Bool
 | .agg ⟨l⟩=>l.all plain
 |v=>plain v
theorem bj.jX {ι:bN} {v:Value} (h:plain v=true):bj ι v v:=by
 unfold plain at h
 split at h<;>first|(exact .bool _)|(exact .int _ _)|(exact .string _)|exact .xg|(exact .oI _ _)|exact .w9|exact .nilFunc|exact .nilIface|(exact .func _ _ _ _ _ .nil .nil)|(exact .tuple _ _ .nil)|(simp at h)
theorem bg.jX {ι:bN} {l:List Value} (h:l.all plain=true):bg ι l l:=by
 induction l with
 |nil=>exact .nil
 |cons v l ih=>
  simp at h
  exact .cons _ _ _ _ (.jX h.1) (ih (by simpa using h.2))
theorem bj.fW {ι:bN} {v:Value} (h:iM v=true):bj ι v v:=by
 unfold iM at h
 split at h
 ·exact .agg _ _ (.jX h)
 ·exact .jX h
structure gd (ι:bN) (e:Tr Value) (nt:Nat) (tmps:Array Value):Prop where
 size:tmps.size=nt
 rel: ∀t,bj ι (ev e (.tmp t)) (tmps.getD t undef)
theorem gd.mono {ι ι':bN} {e:Tr Value} {nt:Nat} {tmps:Array Value} (h:gd ι e nt tmps) (hi:ι.le ι'):gd ι' e nt tmps:=
 ⟨h.size,fun t=>(h.rel t).mono hi⟩
theorem gd.set {ι:bN} {e:Tr Value} {nt:Nat} {tmps:Array Value} (h:gd ι e nt tmps) {d:Nat} (hd:d<nt) {v v':Value} (hv:bj ι v v'):
  gd ι (e.set d v) nt (tmps.setIfInBounds d v'):=by
 refine ⟨by simpa using h.size,fun t=> ?_⟩
 have hs:=h.size
 by_cases ht:t=d
 ·subst ht
  have:(tmps.setIfInBounds t v').getD t undef=v':=by simp [Array.getD,hs,hd]
  rw [this]
  simpa [ev,Tr.aQ] using hv
 ·have:(tmps.setIfInBounds d v').getD t undef=tmps.getD t undef:=by
   simp only [Array.getD_eq_getD_getElem?]
   rw [Array.getElem?_setIfInBounds_ne (Ne.symm ht)]
  rw [this]
  simpa [ev,Tr.aK _ _ ht] using h.rel t
def ld (ng:Nat):Operand→Bool
 | .const v=>iM v
 | .global g=>Nat.blt g ng
 |_=>true
def iP (ng:Nat) (ι:bN):Prop:= ∀g,g<ng→ ∃x,ι g=some ⟨g,0,x⟩
theorem iP.mono {ng:Nat} {ι ι':bN} (h:iP ng ι) (hi:ι.le ι'):iP ng ι':=fun g hg=>let ⟨x,hx⟩:=h g hg;⟨x,hi _ _ hx⟩
theorem gd.ev {ι:bN} {e:Tr Value} {nt ng:Nat} {a:Act} (h:gd ι e nt a.tmps) (hg:iP ng ι) {x:Operand} (hx:ld ng x=true):
  bj ι (ev e x) (a.eval x):=by
 cases x with
 |tmp t=>exact h.rel t
 |const v=>exact .fW hx
 |global g=>
  obtain ⟨x,hx⟩:=hg g (by simpa [ld,Nat.blt_eq] using hx)
  have:=bj.ptr (ι:=ι) g 0 _ hx
  simpa [Vm.ev,Act.eval] using this
 |func f=>exact .func f [] [] [] [] .nil .nil
def xC (T:Types) (e:Nat):Nat:=match T.get e with
 |some t=>t.size
 |none=>0
structure qP (T:Types) (ι:bN) (B:Nat) (cs:List Value) (e:Nat) (sl own:Bool) (i:lC) (w:World):Prop where
 there:i.r<w.heap.size
 kQ: ∀j v,cs[j]? =some v→ ∃v',w.cell? ⟨i.r,i.o+j,none⟩=some v'∧bj ι v v'
 room: ∀j,j<cs.length+i.x*xC T e→(w.cell? ⟨i.r,i.o+j,none⟩).isSome=true
 tight:sl=false→i.x=0
 mine:own=true→B≤i.r∧ ∀j,j<cs.length+i.x*xC T e→w.frozen? ⟨i.r,i.o+j,none⟩=false
 Ce:own=false→i.r<B
def fq (ι:bN):List (Value×Value)→List MapEntry→Prop
 | [], []=>True
 |(k,v)::es,m::ms=>bj ι k m.key∧bj ι v m.val∧fq ι es ms
 |_,_=>False
theorem fq.mono {ι ι':bN} (hi:ι.le ι'): ∀ {es:List (Value×Value)} {ms:List MapEntry},fq ι es ms→fq ι' es ms
 | [], [],_=>trivial
 |(_,_)::_,_::_,⟨a,b,c⟩=>⟨a.mono hi,b.mono hi,fq.mono hi c⟩
 | [],_::_,h=>h.elim
 |(_,_)::_, [],h=>h.elim
def HO:Value→Int
 | .int _ n=>n
 |_=>0
def Cv (own:Bool) (l m:List MapEntry):Prop:=l=m∨(own=false∧l.Perm m∧(l.map fun e=>HO e.key).Nodup∧ ∃q,∀e∈l,∃b,e.key= .int q b)
structure Jz (ι:bN) (B:Nat) (es:List (Value×Value)) (own:Bool) (i:lC) (w:World):Prop where
 there: ∃(ms:Array MapEntry) (clock:Nat),w.heap[i.r]? =some (.map ms clock)∧ ∃l,fq ι es l∧Cv own l ms.toList
 mine:own=true→B≤i.r
 Ce:own=false→i.r<B
def gk (ng:Nat) (o:Oper):Bool:=o.op.operands.toList.all (ld ng)
def codeOk (ng:Nat):Code→Bool
 | .region _ ops dr=>ops.toList.all (gk ng) && (!dr || rX ops)
 | .seq a b=>codeOk ng a && codeOk ng b
 | .cond c a b=>ld ng c && codeOk ng a && codeOk ng b
 | .block _ c=>codeOk ng c
 | .loop c=>codeOk ng c
 | .scope c=>codeOk ng c
 | .rangeFunc f _ a b=>ld ng f && codeOk ng a && codeOk ng b
 |_=>true
structure nV (ng:Nat) (ι:bN) (B:Nat) (r:pQ) (i:lC) (w:World):Prop where
 there: ∃L:Loop,w.heap[i.r]? =some (.loop L)∧L.state=r.state∧L.pending=r.pending∧gd ι r.e r.nt L.tmps∧L.params.toList=r.params∧L.assign=r.assign∧
  L.body=r.body∧(∃j,ι r.defers=some j∧L.defers=j.r)
 ok:codeOk ng r.assign=true∧codeOk ng r.body=true
 jump:r.pending=none∨r.pending=some .ret∨ ∃id,r.pending=some (.exit id)
 mine:B≤i.r
def eU (ng:Nat) (T:Types) (ι:bN) (B:Nat) (o:eI) (i:lC) (w:World):Prop:=
 match o with
 | .cells cs e sl own=>qP T ι B cs e sl own i w
 | .map es own=>Jz ι B es own i w
 | .loop r=>nV ng ι B r i w
 | .defs=>w.heap[i.r]? =some (.deferred (some []))∧B≤i.r
 | .dead=>True
def live:eI→Bool
 | .cells _ _ _ own=>own
 | .map _ own=>own
 | .loop _=>true
 | .defs=>true
 | .dead=>false
theorem eU.lt {ng:Nat} {T:Types} {ι:bN} {B:Nat} {o:eI} {i:lC} {w:World} (h:eU ng T ι B o i w) (hl:live o=true):B≤i.r∧i.r<w.heap.size:=by
 have key: ∀ {x},w.heap[i.r]? =some x→i.r<w.heap.size:=fun {x} h=>by
  rw [Array.getElem?_eq_some_iff] at h;exact h.1
 cases o with
 |cells cs e sl own=>exact ⟨(h.mine hl).1,h.there⟩
 |map es own=>obtain ⟨ms,c,hm,_⟩:=h.there;exact ⟨h.mine hl,key hm⟩
 |loop r=>obtain ⟨L,hL,_⟩:=h.there;exact ⟨h.mine,key hL⟩
 |defs=>exact ⟨h.2,key h.1⟩
 |dead=>simp [live] at hl
theorem eU.keep {ng:Nat} {T:Types} {ι ι':bN} {B:Nat} {o:eI} {i:lC} {w w':World} (h:eU ng T ι B o i w) (hi:ι.le ι') (hr:w'.heap[i.r]? =w.heap[i.r]?)
  :eU ng T ι' B o i w':=by
 have hc: ∀j,w'.cell? ⟨i.r,j,none⟩=w.cell? ⟨i.r,j,none⟩:=fun j=>by simp only [World.cell?,hr]
 have hf: ∀j,w'.frozen? ⟨i.r,j,none⟩=w.frozen? ⟨i.r,j,none⟩:=fun j=>by simp only [World.frozen?,hr]
 cases o with
 |cells cs e sl own=>
  refine ⟨?_,fun j v hj=> ?_,fun j hj=>by rw [hc];exact h.room j hj,h.tight,fun ho=>⟨(h.mine ho).1,fun j hj=>by rw [hf];exact (h.mine ho).2 j hj⟩,h.Ce⟩
  ·have:=h.there
   rw [Array.getElem?_eq_getElem this] at hr
   exact (Array.getElem?_eq_some_iff.1 hr).1
  ·obtain ⟨v',h1,h2⟩:=h.kQ j v hj
   exact ⟨v',by rw [hc];exact h1,h2.mono hi⟩
 |map es own=>
  obtain ⟨ms,c,hm,l,hp,hx⟩:=h.there
  exact ⟨⟨ms,c,by rw [hr];exact hm,l,hp.mono hi,hx⟩,h.mine,h.Ce⟩
 |loop r=>
  obtain ⟨L,h1,h2,h3,h4,h5,h6,h7,j,h8,h9⟩:=h.there
  exact ⟨⟨L,by rw [hr];exact h1,h2,h3,h4.mono hi,h5,h6,h7,j,hi _ _ h8,h9⟩,h.ok,h.jump,h.mine⟩
 |defs=>exact ⟨by rw [hr];exact h.1,h.2⟩
 |dead=>trivial
structure gW (ng:Nat) (T:Types) (ι:bN) (D:Nat→Prop) (B:Nat) (s:St) (w:World):Prop where
 obj: ∀b o i,D b→s.h.get b=some o→ι b=some i→eU ng T ι B o i w
 inj: ∀b b' o o' i i',D b→D b'→s.h.get b=some o→s.h.get b'=some o'→live o=true→live o'=true→ι b=some i→ι b'=some i'→i.r=i'.r→b=b'
 lt: ∀b i,ι b=some i→b<s.n
 base:B≤w.heap.size
def Full (ι:bN):Nat→Prop:=fun b=> ∃i,ι b=some i
structure bH (ng:Nat) (T:Types) (B:Nat) (ι:bN) (D:Nat→Prop) (s:St) (w:World) (ι':bN) (s':St) (w':World):Prop where
 le:ι.le ι'
 zy: ∀b i,ι' b=some i→ι b=some i∨s.n≤b
 lz:gW ng T ι' (fun b=>D b∨s.n≤b) B s' w'
 n:s.n≤s'.n
 wm:s'.wm≤s.wm
 Ap: ∀b,b<s.n→b<s'.wm→s'.h.get b=s.h.get b
 mY: ∀r,r<w.heap.size→(∀b i o,D b→ι b=some i→s.h.get b=some o→live o=true→s'.wm≤b→i.r≠r)→w'.heap[r]? =w.heap[r]?
 jW: ∀b i o,(D b∨s.n≤b)→ι' b=some i→s'.h.get b=some o→live o=true→w.heap.size≤i.r∨
  ∃b₀ i₀ o₀,D b₀∧ι b₀=some i₀∧s.h.get b₀=some o₀∧live o₀=true∧i₀.r=i.r∧(b₀=b∨s'.wm≤b₀)
 size:w.heap.size≤w'.heap.size
 out:w'.os=w.os∧w'.output=w.output
variable {ng:Nat} {T:Types} {B:Nat}
theorem bH.refl {ι:bN} {D:Nat→Prop} {s:St} {w w':World} (h:gW ng T ι D B s w) (hw:w'.heap=w.heap) (hO:w'.os=w.os∧w'.output=w.output:=by exact ⟨rfl,rfl⟩):bH ng T B ι D s w ι s w':=by
 refine ⟨bN.le_refl _,fun b i h=> .inl h,⟨fun b o i hd hb hi=> ?_,fun b b' o o' i i' hd gj hb gY hl fg hi hi' e=> ?_,h.lt,by rw [hw];exact h.base⟩,Nat.le_refl _,Nat.le_refl _,fun _ _ _=>rfl,fun r _ _=>by rw [hw],fun b i o hd hi hb hl=> ?_,by rw [hw];exact Nat.le_refl _,hO⟩
 ·have:=h.lt b i hi
  exact (h.obj b o i (hd.resolve_right (by omega)) hb hi).keep (bN.le_refl _) (by rw [hw])
 ·have h1:=h.lt b i hi
  have h2:=h.lt b' i' hi'
  exact h.inj b b' o o' i i' (hd.resolve_right (by omega)) (gj.resolve_right (by omega)) hb gY hl fg hi hi' e
 ·have h1:=h.lt b i hi
  exact .inr ⟨b,i,o,hd.resolve_right (by omega),hi,hb,hl,rfl,.inl rfl⟩
theorem bH.trans {ι ι' ua:bN} {D:Nat→Prop} {s s' tR:St} {w w' w'':World} (h:bH ng T B ι D s w ι' s' w')
  (h':bH ng T B ι' (fun b=>D b∨s.n≤b) s' w' ua tR w''):bH ng T B ι D s w ua tR w'':=by
 have hn:=h.n
 have xU:=h'.wm
 have hD: ∀b i,ua b=some i→(D b∨s.n≤b)→((D b∨s.n≤b)∨s'.n≤b):=fun _ _ _ h=> .inl h
 refine ⟨bN.le_trans h.le h'.le,fun b i hi=> ?_,⟨fun b o i hd hb hi=>h'.lz.obj b o i (hD b i hi hd) hb hi,fun b b' o o' i i' hd gj hb gY hl fg hi hi' e=>
  h'.lz.inj b b' o o' i i' (hD b i hi hd) (hD b' i' hi' gj) hb gY hl fg hi hi' e,h'.lz.lt,h'.lz.base⟩,by have:=h'.n;omega,by have:=h.wm;omega,fun b h1 h2=> ?_,fun r hr hno=> ?_,fun b i o hd hi hb hl=> ?_,by have:=h.size;have:=h'.size;omega,h'.out.1.trans h.out.1,h'.out.2.trans h.out.2⟩
 ·rcases h'.zy b i hi with h1|h1
  ·exact h.zy b i h1
  ·exact .inr (by omega)
 ·rw [h'.Ap b (by omega) h2,h.Ap b h1 (by omega)]
 ·have h1:w'.heap[r]? =w.heap[r]? :=h.mY r hr fun b i o hd hi hb hl hle=>hno b i o hd hi hb hl (by omega)
  rw [←h1]
  refine h'.mY r (by have:=h.size;omega) fun b i o hd hi hb hl hle e=> ?_
  rcases h.jW b i o hd hi hb hl with h2|⟨b₀,i₀,o₀,XD,XQ,Xt,Bt,e₀,IQ⟩
  ·omega
  ·refine hno b₀ i₀ o₀ XD XQ Xt Bt ?_ (by omega)
   rcases IQ with rfl|IQ<;>omega
 ·rcases h'.jW b i o (hD b i hi hd) hi hb hl with h1|⟨b₀,i₀,o₀,XD,XQ,Xt,Bt,e₀,IQ⟩
  ·exact .inl (by have:=h.size;omega)
  ·rcases h.jW b₀ i₀ o₀ XD XQ Xt Bt with h1|⟨b₁,i₁,o₁,KE,Cf,MZ,M1,e₁,Qx⟩
   ·exact .inl (by omega)
   ·refine .inr ⟨b₁,i₁,o₁,KE,Cf,MZ,M1,by omega,?_⟩
    rcases Qx with rfl|Qx
    ·rcases IQ with rfl|IQ
     ·exact .inl rfl
     ·exact .inr IQ
    ·exact .inr (by omega)
end Go.Vm
end
noncomputable section
namespace Go.Vm
open Go
variable {ng:Nat} {T:Types} {B:Nat} {ι:bN} {D:Nat→Prop} {s:St} {w w':World}
def bN.add (ι:bN) (n:Nat) (i:lC):bN:=fun b=>if b=n then some i else ι b
theorem bN.add_same (ι:bN) (n:Nat) (i:lC):ι.add n i n=some i:=by simp [bN.add]
theorem bN.di (ι:bN) {n b:Nat} (i:lC) (h:b≠n):ι.add n i b=ι b:=by simp [bN.add,h]
theorem bN.pC {n:Nat} (h: ∀b i,ι b=some i→b<n) (i:lC):ι.le (ι.add n i):=fun b j hb=>by
 rw [bN.di];exact hb
 have:=h b j hb;omega
theorem mg (b:Nat): ∀(l:List Value) (o:Nat) (w:World),(w.setCells b o l).os=w.os∧(w.setCells b o l).output=w.output
 | [],_,_=>⟨rfl,rfl⟩
 |v::l,o,w=>by
  have:=mg b l (o+1) (w.setCell ⟨b,o,none⟩ v)
  exact ⟨this.1.trans rfl,this.2.trans rfl⟩
theorem bH.new (h:gW ng T ι D B s w) (o:eI) (ob:Obj) (x:Nat) (hw:w'.heap=w.heap.push ob)
  (ho:eU ng T (ι.add s.n ⟨w.heap.size,0,x⟩) B o ⟨w.heap.size,0,x⟩ w') (hO:w'.os=w.os∧w'.output=w.output:=by exact ⟨rfl,rfl⟩):bH ng T B ι D s w (ι.add s.n ⟨w.heap.size,0,x⟩) (newObj s o) w':=by
 have hle:=bN.pC h.lt ⟨w.heap.size,0,x⟩
 have hold: ∀r,r<w.heap.size→w'.heap[r]? =w.heap[r]? :=fun r hr=>by rw [hw,Array.getElem?_push];simp [Nat.ne_of_lt hr]
 have hsz:w'.heap.size=w.heap.size+1:=by rw [hw];simp
 have cases: ∀b o' i,(D b∨s.n≤b)→(newObj s o).h.get b=some o'→(ι.add s.n ⟨w.heap.size,0,x⟩) b=some i→
   (b=s.n∧o'=o∧i=⟨w.heap.size,0,x⟩)∨(b≠s.n∧D b∧s.h.get b=some o'∧ι b=some i∧b<s.n):=by
  intro b o' i hd hb hi
  by_cases e:b=s.n
  ·subst e
   rw [bN.add_same] at hi
   simp only [newObj,Tr.aQ] at hb
   exact .inl ⟨rfl,(Option.some.inj hb).symm,(Option.some.inj hi).symm⟩
  ·rw [bN.di _ _ e] at hi
   simp only [newObj,Tr.aK _ _ e] at hb
   have:=h.lt b i hi
   exact .inr ⟨e,hd.resolve_right (by omega),hb,hi,this⟩
 have Ar: ∀b o' i,D b→s.h.get b=some o'→ι b=some i→live o'=true→i.r<w.heap.size:=fun b o' i hd hb hi hl=>((h.obj b o' i hd hb hi).lt hl).2
 refine ⟨hle,fun b i hi=> ?_,⟨fun b o' i hd hb hi=> ?_,fun b b' o₁ o₂ i i' hd gj hb gY hl fg hi hi' e=> ?_,fun b i hi=> ?_,by have:=h.base;omega⟩,by simp [newObj],Nat.le_refl _,fun b hb _=> ?_,fun r hr _=>hold r hr,fun b i o' hd hi hb hl=> ?_,by omega,hO⟩
 ·by_cases e:b=s.n
  ·exact .inr (by omega)
  ·rw [bN.di _ _ e] at hi;exact .inl hi
 ·rcases cases b o' i hd hb hi with ⟨rfl,rfl,rfl⟩|⟨e,hd,hb,hi,hlt⟩
  ·exact ho
  ·have hr:=h.obj b o' i hd hb hi
   cases hl:live o' with
   |true=>exact hr.keep hle (hold _ (hr.lt hl).2)
   |false=>
    cases o' with
    |cells cs e sl own=>exact eU.keep hr hle (hold _ hr.there)
    |map es own=>
     obtain ⟨ms,c,hm,_⟩:=hr.there
     exact eU.keep hr hle (hold _ (Array.getElem?_eq_some_iff.1 hm).1)
    |loop r=>simp [live] at hl
    |defs=>simp [live] at hl
    |dead=>trivial
 ·rcases cases b o₁ i hd hb hi with ⟨rfl,rfl,rfl⟩|⟨e₁,kd,kb,ki,hlt⟩<;>rcases cases b' o₂ i' gj gY hi' with ⟨rfl,rfl,rfl⟩|⟨e₂,kd',kb',ki',ot⟩
  ·rfl
  ·have:=Ar b' o₂ i' kd' kb' ki' fg;simp at e;omega
  ·have:=Ar b o₁ i kd kb ki hl;simp at e;omega
  ·exact h.inj b b' o₁ o₂ i i' kd kd' kb kb' hl fg ki ki' e
 ·by_cases e:b=s.n
  ·subst e;simp [newObj]
  ·rw [bN.di _ _ e] at hi;have:=h.lt b i hi;simp [newObj];omega
 ·simp only [newObj];rw [Tr.aK];omega
 ·rcases cases b o' i hd hb hi with ⟨rfl,rfl,rfl⟩|⟨e,hd,hb,hi,hlt⟩
  ·exact .inl (Nat.le_refl _)
  ·exact .inr ⟨b,i,o',hd,hi,hb,hl,rfl,.inl rfl⟩
theorem bH.write (h:gW ng T ι D B s w) {b:Nat} {o o':eI} {i:lC} (hd:D b) (hb:s.h.get b=some o) (hi:ι b=some i) (hl:live o=true) (fg:live o'=true∨o'= .dead)
  (hsz:w'.heap.size=w.heap.size) (hw: ∀r,r≠i.r→w'.heap[r]? =w.heap[r]?) (ho:eU ng T ι B o' i w') (hO:w'.os=w.os∧w'.output=w.output:=by exact ⟨rfl,rfl⟩):
  bH ng T B ι D s w ι { s with h:=s.h.set b o',wm:=min s.wm b } w':=by
 have oP:=(h.obj b o i hd hb hi).lt hl
 have hlt:=h.lt b i hi
 have cases: ∀c q j,(D c∨s.n≤c)→(s.h.set b o').get c=some q→ι c=some j→D c∧((c=b∧q=o'∧j=i)∨(c≠b∧s.h.get c=some q)):=by
  intro c q j iU hc hj
  have:=h.lt c j hj
  refine ⟨iU.resolve_right (by omega),?_⟩
  by_cases e:c=b
  ·subst e
   rw [Tr.aQ] at hc
   exact .inl ⟨rfl,(Option.some.inj hc).symm,by rw [hi] at hj;exact (Option.some.inj hj).symm⟩
  ·rw [Tr.aK _ _ e] at hc
   exact .inr ⟨e,hc⟩
 have D1:live o'=true∨live o'=false:=by cases live o'<;>simp
 refine ⟨bN.le_refl _,fun c j hj=> .inl hj,⟨fun c q j iU hc hj=> ?_,fun c c' q q' j j' iU wE hc xR hq rB hj sM e=> ?_,fun c j hj=>h.lt c j hj,by rw [hsz];exact h.base⟩,Nat.le_refl _,by simp;omega,fun c hc hm=> ?_,fun r hr hno=> ?_,fun c j q iU hj hc hq=> ?_,by omega,hO⟩
 ·rcases cases c q j iU hc hj with ⟨iU,⟨rfl,rfl,rfl⟩|⟨e,hc⟩⟩
  ·exact ho
  ·have hr:=h.obj c q j iU hc hj
   cases hq:live q with
   |true=>
    refine hr.keep (bN.le_refl _) (hw _ fun e'=>e ?_)
    exact h.inj c b q o j i iU hd hc hb hq hl hj hi e'
   |false=>
    cases q with
    |cells cs e sl own=>
     have:=hr.Ce (by simpa [live] using hq)
     exact eU.keep hr (bN.le_refl _) (hw _ (by omega))
    |map es own=>
     have:=hr.Ce (by simpa [live] using hq)
     exact eU.keep hr (bN.le_refl _) (hw _ (by omega))
    |loop r=>simp [live] at hq
    |defs=>simp [live] at hq
    |dead=>trivial
 ·rcases cases c q j iU hc hj with ⟨iU,h1⟩
  rcases cases c' q' j' wE xR sM with ⟨wE,h2⟩
  rcases h1 with ⟨rfl,rfl,rfl⟩|⟨e₁,kc⟩<;>rcases h2 with ⟨rfl,rfl,rfl⟩|⟨e₂,Lv⟩
  ·rfl
  ·exact h.inj _ _ o q' _ _ hd wE hb Lv hl rB hi sM e
  ·exact h.inj _ _ q o _ _ iU hd kc hb hq hl hj hi e
  ·exact h.inj _ _ q q' _ _ iU wE kc Lv hq rB hj sM e
 ·have:c≠b:=by intro e;subst e;simp at hm;omega
  simp only [];rw [Tr.aK _ _ this]
 ·exact hw r fun e=>hno b i o hd hi hb hl (by simp;omega) e.symm
 ·rcases cases c q j iU hc hj with ⟨iU,⟨rfl,rfl,rfl⟩|⟨e,hc⟩⟩
  ·exact .inr ⟨_,_,o,hd,hi,hb,hl,rfl,.inl rfl⟩
  ·exact .inr ⟨c,j,q,iU,hj,hc,hq,rfl,.inl rfl⟩
theorem bH.grow (h:gW ng T ι D B s w) {b:Nat} {o o':eI} {i:lC} (x:Nat) (hd:D b) (hb:s.h.get b=some o) (hi:ι b=some i) (hl:live o=true)
  (hsz:w'.heap.size=w.heap.size) (hw: ∀r,r≠i.r→w'.heap[r]? =w.heap[r]?) (ho:eU ng T (ι.add s.n ⟨i.r,i.o,x⟩) B o' ⟨i.r,i.o,x⟩ w') (hO:w'.os=w.os∧w'.output=w.output:=by exact ⟨rfl,rfl⟩):
  bH ng T B ι D s w (ι.add s.n ⟨i.r,i.o,x⟩) (newObj { s with h:=s.h.set b .dead,wm:=min s.wm b } o') w':=by
 have oP:=(h.obj b o i hd hb hi).lt hl
 have hlt:=h.lt b i hi
 have hle:=bN.pC h.lt ⟨i.r,i.o,x⟩
 have cases: ∀c q j,(D c∨s.n≤c)→((s.h.set b .dead).set s.n o').get c=some q→(ι.add s.n ⟨i.r,i.o,x⟩) c=some j→
   (c=s.n∧q=o'∧j=⟨i.r,i.o,x⟩)∨(c<s.n∧D c∧ι c=some j∧((c=b∧q= .dead)∨(c≠b∧s.h.get c=some q))):=by
  intro c q j iU hc hj
  by_cases e:c=s.n
  ·subst e
   rw [Tr.aQ] at hc
   rw [bN.add_same] at hj
   exact .inl ⟨rfl,(Option.some.inj hc).symm,(Option.some.inj hj).symm⟩
  ·rw [Tr.aK _ _ e] at hc
   rw [bN.di _ _ e] at hj
   have:=h.lt c j hj
   refine .inr ⟨this,iU.resolve_right (by omega),hj,?_⟩
   by_cases e':c=b
   ·subst e'
    rw [Tr.aQ] at hc
    exact .inl ⟨rfl,(Option.some.inj hc).symm⟩
   ·rw [Tr.aK _ _ e'] at hc
    exact .inr ⟨e',hc⟩
 refine ⟨hle,fun c j hj=> ?_,⟨fun c q j iU hc hj=> ?_,fun c c' q q' j j' iU wE hc xR hq rB hj sM e=> ?_,fun c j hj=> ?_,by rw [hsz];exact h.base⟩,by simp [newObj],by simp [newObj];omega,fun c hc hm=> ?_,fun r hr hno=> ?_,fun c j q iU hj hc hq=> ?_,by omega,hO⟩
 ·by_cases e:c=s.n
  ·exact .inr (by omega)
  ·rw [bN.di _ _ e] at hj;exact .inl hj
 ·rcases cases c q j iU hc hj with ⟨rfl,rfl,rfl⟩|⟨T4,iU,hj,⟨rfl,rfl⟩|⟨e,hc⟩⟩
  ·exact ho
  ·trivial
  ·have hr:=h.obj c q j iU hc hj
   cases hq:live q with
   |true=>
    refine hr.keep hle (hw _ fun e'=>e ?_)
    exact h.inj c b q o j i iU hd hc hb hq hl hj hi e'
   |false=>
    cases q with
    |cells cs e sl own=>
     have:=hr.Ce (by simpa [live] using hq)
     exact eU.keep hr hle (hw _ (by omega))
    |map es own=>
     have:=hr.Ce (by simpa [live] using hq)
     exact eU.keep hr hle (hw _ (by omega))
    |loop r=>simp [live] at hq
    |defs=>simp [live] at hq
    |dead=>trivial
 ·rcases cases c q j iU hc hj with ⟨rfl,rfl,rfl⟩|⟨T4,kdc,kj,⟨rfl,rfl⟩|⟨e₁,kc⟩⟩<;>rcases cases c' q' j' wE xR sM with ⟨rfl,rfl,rfl⟩|⟨ab4,Q6,kj',⟨rfl,rfl⟩|⟨e₂,Lv⟩⟩
  ·rfl
  ·simp [live] at rB
  ·exact absurd (h.inj _ _ o q' _ _ hd Q6 hb Lv hl rB hi kj' e).symm e₂
  ·simp [live] at hq
  ·simp [live] at hq
  ·simp [live] at hq
  ·exact absurd (h.inj _ _ q o _ _ kdc hd kc hb hq hl kj hi e) e₁
  ·simp [live] at rB
  ·exact h.inj _ _ q q' _ _ kdc Q6 kc Lv hq rB kj kj' e
 ·by_cases e:c=s.n
  ·subst e;simp [newObj]
  ·rw [bN.di _ _ e] at hj;have:=h.lt c j hj;simp [newObj];omega
 ·have h1:c≠b:=by intro e;subst e;simp [newObj] at hm;omega
  simp only [newObj];rw [Tr.aK _ _ (by omega),Tr.aK _ _ h1]
 ·exact hw r fun e=>hno b i o hd hi hb hl (by simp [newObj];omega) e.symm
 ·rcases cases c q j iU hc hj with ⟨rfl,rfl,rfl⟩|⟨T4,iU,hj,⟨rfl,rfl⟩|⟨e,hc⟩⟩
  ·exact .inr ⟨b,i,o,hd,hi,hb,hl,rfl,.inr (by simp [newObj];omega)⟩
  ·simp [live] at hq
  ·exact .inr ⟨c,j,q,iU,hj,hc,hq,rfl,.inl rfl⟩
theorem gW.read (h:gW ng T ι D B s w) {b off n:Nat} {l:List Value} (hr:cW s b off n=some l) (hd:D b) {i:lC} (hi:ι b=some i):
  l.length=n∧ ∃l',bg ι l l'∧ ∀j v,l'[j]? =some v→w.cell? ⟨i.r,i.o+off+j,none⟩=some v:=by
 unfold cW at hr
 split at hr
 ·rename_i cs e sl own hb
  split at hr
  ·rename_i hle
   rw [Nat.ble_eq] at hle
   simp at hr
   have ho:=h.obj b _ i hd hb hi
   subst hr
   have hlen:((cs.drop off).take n).length=n:=by simp;omega
   refine ⟨hlen,(List.range n).map (fun j=>(w.cell? ⟨i.r,i.o+off+j,none⟩).getD undef),?_,?_⟩
   ·refine bg.EH (by simp;omega) fun j v v' hv ji=> ?_
    have hj:j<n:=by
     have:=(List.getElem?_eq_some_iff.1 hv).1
     omega
    rw [List.getElem?_take,if_pos hj,List.getElem?_drop] at hv
    obtain ⟨u,hu,bZ⟩:=ho.kQ (off+j) v hv
    rw [←Nat.add_assoc] at hu
    simp [hj,hu] at ji
    exact ji ▸ bZ
   ·intro j v hv
    have hj:j<n:=by
     have:=(List.getElem?_eq_some_iff.1 hv).1
     simpa using this
    obtain ⟨u,hu,_⟩:=ho.kQ (off+j) cs[off+j] (List.getElem?_eq_getElem (by omega))
    rw [←Nat.add_assoc] at hu
    simp [hj,hu] at hv
    rw [hu,hv]
  ·cases hr
 ·cases hr
theorem gp (b:Nat): ∀(vs:List Value) (o:Nat) (w:World),(w.setCells b o vs).heap.size=w.heap.size
 | [],_,_=>rfl
 |v::r,o,w=>by
  simp only [World.setCells]
  rw [gp b r (o+1)]
  simp [World.setCell]
theorem jo (b:Nat): ∀(vs:List Value) (o:Nat) (w:World) (r:Nat),r≠b→(w.setCells b o vs).heap[r]? =w.heap[r]?
 | [],_,_,_,_=>rfl
 |v::vs,o,w,r,h=>by
  simp only [World.setCells]
  rw [jo b vs (o+1) _ r h]
  simp only [World.setCell,Array.getElem?_modify]
  simp [Ne.symm h]
theorem gW.store (h:gW ng T ι D B s w) {b off:Nat} {l l':List Value} {s':St} (hr:eW s b off l=some s') (hd:D b) {i:lC} (hi:ι b=some i) (hl:bg ι l l'):
  (∀j,j<l'.length→(w.cell? ⟨i.r,i.o+off+j,none⟩).isSome=true)∧(∀j,j<l'.length→w.frozen? ⟨i.r,i.o+off+j,none⟩=false)∧(∀v∈l',v.oneCell'=true)∧
   bH ng T B ι D s w ι s' (w.setCells i.r (i.o+off) l'):=by
 unfold eW at hr
 split at hr
 ·rename_i cs e sl hb
  split at hr
  ·rename_i hle
   rw [Bool.and_eq_true,Nat.ble_eq,List.all_eq_true] at hle
   obtain ⟨hle,Lg⟩:=hle
   have ho:=h.obj b _ i hd hb hi
   have hlen:=hl.length
   have h1: ∀j,j<l'.length→(w.cell? ⟨i.r,i.o+off+j,none⟩).isSome=true:=fun j hj=>by
    rw [Nat.add_assoc];exact ho.room (off+j) (by omega)
   have h2: ∀j,j<l'.length→w.frozen? ⟨i.r,i.o+off+j,none⟩=false:=fun j hj=>by
    rw [Nat.add_assoc];exact (ho.mine rfl).2 (off+j) (by omega)
   have h3: ∀v∈l',v.oneCell'=true:=fun v hv=>by
    obtain ⟨j,hj⟩:=List.getElem?_of_mem hv
    have sM:j<l.length:=by rw [hlen];exact (List.getElem?_eq_some_iff.1 hj).1
    obtain ⟨v',ji,bZ⟩:=hl.get (List.getElem?_eq_getElem sM)
    rw [hj] at ji
    cases ji
    exact bZ.scalar (Lg _ (List.getElem_mem sM))
   refine ⟨h1,h2,h3,?_⟩
   simp at hr
   subst hr
   refine bH.write h hd hb hi rfl (.inl rfl) (gp _ _ _ _) (fun r hr=>jo _ _ _ _ _ hr) ?_ (mg _ _ _ _)
   have uI:(bY cs off l).length=cs.length:=by simp [bY];omega
   have hout: ∀j,(j<off∨off+l.length≤j)→(w.setCells i.r (i.o+off) l').cell? ⟨i.r,i.o+j,none⟩=w.cell? ⟨i.r,i.o+j,none⟩:=fun j hj=>
    World.cell?_setCells_out _ _ _ _ _ fun _ _=>by simp;omega
   have hin: ∀j (hj:j<l'.length),(w.setCells i.r (i.o+off) l').cell? ⟨i.r,i.o+off+j,none⟩=some l'[j]:=fun j hj=>
    World.cell?_setCells_in _ _ _ _ h1 j hj
   refine ⟨by rw [gp];exact ho.there,fun j v hj=> ?_,fun j hj=> ?_,ho.tight,fun mC=>⟨(ho.mine rfl).1,fun j hj=> ?_⟩,fun mC=>by simp at mC⟩
   ·unfold bY at hj
    by_cases c1:j<off
    ·rw [hout j (.inl c1)]
     rw [List.getElem?_append_left (by simp;omega),List.getElem?_take,if_pos c1] at hj
     exact ho.kQ j v hj
    ·rw [List.getElem?_append_right (by simp;omega)] at hj
     have:(cs.take off).length=off:=by simp;omega
     rw [this] at hj
     by_cases c2:j - off<l.length
     ·rw [List.getElem?_append_left c2] at hj
      obtain ⟨v',ji,bZ⟩:=hl.get hj
      have:=hin (j - off) (by omega)
      rw [show i.o+off+(j - off)=i.o+j by omega] at this
      refine ⟨v',?_,bZ⟩
      rw [this]
      rw [List.getElem?_eq_getElem (by omega)] at ji
      exact ji
     ·rw [List.getElem?_append_right (by omega),List.getElem?_drop] at hj
      rw [hout j (.inr (by omega))]
      rw [show off+l.length+(j - off - l.length)=j by omega] at hj
      exact ho.kQ j v hj
   ·rw [uI] at hj
    exact World.isSome_setCells _ _ _ _ _ (ho.room j hj)
   ·rw [uI] at hj
    rw [World.frozen?_setCells]
    exact (ho.mine rfl).2 j hj
  ·cases hr
 ·cases hr
end Go.Vm
end
noncomputable section
namespace Go.Vm
open Go
def kindOk:TK→TypeDesc→Prop
 | .int k,.int k'=>k=k'
 | .bool,.bool=>True
 | .string,.string=>True
 | .slice e,.slice e'=>e=e'
 | .array n e,.array n' e'=>n=n'∧e=e'
 | .struct fs,.struct fields=>fs=fields.toList.map fun f=>(f.type,f.offset)
 | .pointer e,.pointer e'=>e=e'
 | .map k v,.map k' v'=>k=k'∧v=v'
 | .func,.func _ _ _=>True
 | .iface,.interface _=>True
 |_,_=>False
structure iv (P:Program) (t:Nat) (ti:TI):Prop where
 info: ∃i,P.info? t=some i∧i.size=ti.size∧i.bytes=ti.bytes∧i.zero=some ti.zero
 under: ∃d,P.underlying t=some d∧kindOk ti.kind d
 zero:iM ti.zero=true
 Ia:(bc ti.zero).length=ti.size
 parts: ∀fs,ti.kind= .struct fs→ ∀x∈fs,(P.info? x.1).isSome=true
def lG (P:Program) (T:Types):Prop:= ∀t ti,T.get t=some ti→iv P t ti
variable {ng:Nat} {T:Types} {B:Nat} {ι:bN} {D:Nat→Prop} {s s':St} {w w':World} {P:Program}
theorem qL {t:Nat} {ti:TI} (h:T.get t=some ti):xC T t=ti.size:=by simp [xC,h]
theorem iv.mG {t:Nat} {ti:TI} (h:iv P t ti) (w:World):(isAgg t).run P w= .ok ti.isAgg w:=by
 obtain ⟨d,hd,hk⟩:=h.under
 simp only [isAgg,Sem.run_bind,run_underlying hd,Result.andThen_ok]
 unfold TI.isAgg
 cases hkk:ti.kind<;>rw [hkk] at hk<;>cases d<;>simp [kindOk] at hk ⊢
theorem iv.run_sizeOf {t:Nat} {ti:TI} (h:iv P t ti) (w:World):(sizeOf t).run P w= .ok ti.size w:=by
 obtain ⟨i,hi,hs,_⟩:=h.info
 simp [sizeOf,typeInfo,hi,hs]
theorem iv.kf {t:Nat} {ti:TI} (h:iv P t ti) (w:World):(zeroValue t).run P w= .ok ti.zero w:=by
 obtain ⟨i,hi,_,_,hz⟩:=h.info
 simp [zeroValue,typeInfo,hi,hz]
theorem iv.slice {t e:Nat} {ti:TI} (h:iv P t ti) (hk:ti.kind= .slice e):P.underlying t=some (.slice e):=by
 obtain ⟨d,hd,hk'⟩:=h.under
 rw [hk] at hk'
 cases d<;>simp [kindOk] at hk'
 subst hk';exact hd
theorem iv.array {t n e:Nat} {ti:TI} (h:iv P t ti) (hk:ti.kind= .array n e):P.underlying t=some (.array n e):=by
 obtain ⟨d,hd,hk'⟩:=h.under
 rw [hk] at hk'
 cases d<;>simp [kindOk] at hk'
 obtain ⟨rfl,rfl⟩:=hk';exact hd
theorem iv.map {t k v:Nat} {ti:TI} (h:iv P t ti) (hk:ti.kind= .map k v):P.underlying t=some (.map k v):=by
 obtain ⟨d,hd,hk'⟩:=h.under
 rw [hk] at hk'
 cases d<;>simp [kindOk] at hk'
 obtain ⟨rfl,rfl⟩:=hk';exact hd
theorem iv.int {t:Nat} {k:IntKind} {ti:TI} (h:iv P t ti) (hk:ti.kind= .int k):P.underlying t=some (.int k):=by
 obtain ⟨d,hd,hk'⟩:=h.under
 rw [hk] at hk'
 cases d<;>simp [kindOk] at hk'
 subst hk';exact hd
theorem iv.string {t:Nat} {ti:TI} (h:iv P t ti) (hk:ti.kind= .string):P.underlying t=some .string:=by
 obtain ⟨d,hd,hk'⟩:=h.under
 rw [hk] at hk'
 cases d<;>simp [kindOk] at hk'
 exact hd
theorem iv.bool {t:Nat} {ti:TI} (h:iv P t ti) (hk:ti.kind= .bool):P.underlying t=some .bool:=by
 obtain ⟨d,hd,hk'⟩:=h.under
 rw [hk] at hk'
 cases d<;>simp [kindOk] at hk'
 exact hd
theorem iv.pointer {t e:Nat} {ti:TI} (h:iv P t ti) (hk:ti.kind= .pointer e):P.underlying t=some (.pointer e):=by
 obtain ⟨d,hd,hk'⟩:=h.under
 rw [hk] at hk'
 cases d<;>simp [kindOk] at hk'
 subst hk';exact hd
theorem iv.func {t:Nat} {ti:TI} (h:iv P t ti) (hk:ti.kind= .func): ∃a b c,P.underlying t=some (.func a b c):=by
 obtain ⟨d,hd,hk'⟩:=h.under
 rw [hk] at hk'
 cases d<;>simp [kindOk] at hk'
 exact ⟨_,_,_,hd⟩
theorem iv.struct {t:Nat} {fs:List (Nat×Nat)} {ti:TI} (h:iv P t ti) (hk:ti.kind= .struct fs):
  ∃fields,P.underlying t=some (.struct fields)∧fs=fields.toList.map fun f=>(f.type,f.offset):=by
 obtain ⟨d,hd,hk'⟩:=h.under
 rw [hk] at hk'
 cases d<;>simp [kindOk] at hk'
 exact ⟨_,hd,hk'⟩
theorem gm (r o n:Nat):(⟨r,o,none⟩:Addr).add n=⟨r,o+n,none⟩:=by
 unfold Addr.add;split<;>simp_all
theorem Aw (hT:lG P T) (h:gW ng T ι D B s w) {t:Nat} {ti:TI} (ht:T.get t=some ti) {a:Addr} {p:Value} (hp:bj ι (.pointer (some a)) p) (hd:D a.block) {v:Value}
  (hl:loadT ti s a=some v): ∃v',(Instr.loadAt t p).run P w= .ok v' w∧bj ι v v':=by
 cases hp with
 |ptr b o i hi=>
  have ok:=hT t ti ht
  unfold loadT at hl
  cases hag:ti.isAgg with
  |true=>
   simp only [hag] at hl
   split at hl
   ·rename_i l hr
    obtain ⟨hlen,l',bZ,hc⟩:=h.read hr hd hi
    simp at hl
    subst hl
    refine ⟨.agg ⟨l'⟩,?_,.agg _ _ bZ⟩
    have:=run_loadCells_list (P:=P) w ⟨i.r,i.o+o,none⟩ l' (fun j v hj=>by rw [gm];exact hc j v hj)
    rw [←bZ.length,hlen] at this
    simp only [Instr.loadAt,Instr.sureAddr,loadVar,Sem.run_bind,Sem.run_pure,Result.andThen_ok,ok.mG,hag,if_true,ok.run_sizeOf,this]
   ·cases hl
  |false=>
   simp only [hag] at hl
   split at hl
   ·rename_i u r hr
    obtain ⟨hlen,l',bZ,hc⟩:=h.read hr hd hi
    simp at hl
    subst hl
    cases bZ with
    |cons _ v' _ l' hv fg=>
     refine ⟨v',?_,hv⟩
     have:=hc 0 v' rfl
     rw [Nat.add_zero] at this
     simp [Instr.loadAt,Instr.sureAddr,loadVar,ok.mG,hag,this]
   ·cases hl
theorem ER (hT:lG P T) (h:gW ng T ι D B s w) {t:Nat} {ti:TI} (ht:T.get t=some ti) {a:Addr} {p:Value} (hp:bj ι (.pointer (some a)) p) (hd:D a.block) {v v':Value} (hv:bj ι v v')
  (hl:storeT ti s a v=some s'): ∃w',(Instr.storeAt t p v').run P w= .ok () w'∧bH ng T B ι D s w ι s' w':=by
 cases hp with
 |ptr b o i hi=>
  have ok:=hT t ti ht
  unfold storeT at hl
  split at hl
  ·rename_i hn
   have hn:=Nat.eq_of_beq_eq_true hn
   obtain ⟨h1,h2,h3,h4⟩:=h.store hl hd hi hv.bc
   have hst:=run_storeCells_cells (P:=P) i.r (i.o+o) v'.cells.toList 0 w (by simpa using h1) (by simpa using h2) h3
   have hlen:=hv.bc.length
   have hsz:v'.cells.size=ti.size:=by rw [←hn,hlen,Array.length_toList]
   refine ⟨_,?_,h4⟩
   simp [Instr.storeAt,Instr.sureAddr,storeVar,ok.run_sizeOf,hsz,hst]
  ·cases hl
theorem vU {w':World} {c:Array Value} {e:Nat} (hw:w'.heap=w.heap.push (.cells c e (0,0))) (j:Nat):w'.cell? ⟨w.heap.size,j,none⟩=c[j]? :=by
 simp [World.cell?,hw]
theorem yq {w':World} {c:Array Value} {e:Nat} (hw:w'.heap=w.heap.push (.cells c e (0,0))) (j:Nat):w'.frozen? ⟨w.heap.size,j,none⟩=false:=by
 simp [World.frozen?,hw]
theorem bH.cells (h:gW ng T ι D B s w) {cs cs' more:List Value} {e:Nat} (sl:Bool) (x:Nat) (hw:w'.heap=w.heap.push (.cells (cs'++more).toArray e (0,0))) (hc:bg ι cs cs')
  (hm:x*xC T e≤more.length) (hx:sl=false→x=0) (hO:w'.os=w.os∧w'.output=w.output:=by exact ⟨rfl,rfl⟩):bH ng T B ι D s w (ι.add s.n ⟨w.heap.size,0,x⟩) (newObj s (.cells cs e sl true)) w':=by
 have hb:=h.base
 have hlen:=hc.length
 refine bH.new h _ _ x hw ⟨by rw [hw];simp,fun j v hj=> ?_,fun j hj=> ?_,hx,fun _=>⟨hb,fun j _=>yq hw _⟩,fun hf=>by simp at hf⟩ hO
 ·obtain ⟨v',ji,bZ⟩:=hc.get hj
  refine ⟨v',?_,bZ.mono (bN.pC h.lt _)⟩
  rw [vU hw,Nat.zero_add]
  simp [List.getElem?_append_left (show j<cs'.length from (List.getElem?_eq_some_iff.1 ji).1),ji]
 ·rw [vU hw,Nat.zero_add]
  simp at hj ⊢
  omega
theorem tG (h:gW ng T ι D B s w) {t:Nat} {v v':Value} (hv:bj ι v v') {r:Value} (hr:eS s (bc v) t false=(r,s')):
  ∃ι' a w',(newVar t v').run P w= .ok a w'∧bj ι' r (.pointer (some a))∧bH ng T B ι D s w ι' s' w':=by
 simp [eS] at hr
 obtain ⟨rfl,rfl⟩:=hr
 have hg:=bH.cells (w':=w.alloc (.cells v'.cells t)) (s:=s) h (e:=t) (more:= []) false 0 (by show w.heap.push _=_;simp) hv.bc (by simp) (fun _=>rfl)
 refine ⟨_,⟨w.heap.size,0,none⟩,_,by simp [newVar,newRow],?_,hg⟩
 exact bj.ptr (ι:=ι.add s.n ⟨w.heap.size,0,0⟩) s.n 0 _ (bN.add_same _ _ _)
theorem EK (hT:lG P T) (h:gW ng T ι D B s w) {t:Nat} {ti:TI} (ht:T.get t=some ti) {r:Value} (hr:eS s (bc ti.zero) t false=(r,s')):
  ∃ι' v' w',(Instr.alloc t true (.tuple #[])).run P w= .ok v' w'∧bj ι' r v'∧bH ng T B ι D s w ι' s' w':=by
 have ok:=hT t ti ht
 obtain ⟨ι',a,w',h1,h2,h3⟩:=tG (P:=P) h (bj.fW ok.zero) hr
 exact ⟨ι',_,w',by simp [Instr.alloc,ok.kf,h1],h2,h3⟩
theorem LJ (h:gW ng T ι D B s w) {t:Nat} {v v':Value} (hv:bj ι v v') {r:Value} (hr:eS s (bc v) t false=(r,s')):
  ∃ι' u w',(Instr.box t v').run P w= .ok u w'∧bj ι' r u∧bH ng T B ι D s w ι' s' w':=by
 obtain ⟨ι',a,w',h1,h2,h3⟩:=tG (P:=P) h hv hr
 exact ⟨ι',_,w',by simp [Instr.box,h1],h2,h3⟩
end Go.Vm
end
noncomputable section
namespace Go.Vm
open Go
variable {ng:Nat} {T:Types} {B:Nat} {ι:bN} {D:Nat→Prop} {s s':St} {w w':World} {P:Program}
theorem drop_cons {α:Type} {l r:List α} {n:Nat} {x:α} (h:l.drop n=x::r):l[n]? =some x:=by
 have:(l.drop n)[0]? =some x:=by rw [h];rfl
 rw [List.getElem?_drop] at this
 simpa using this
theorem Ax (hT:lG P T) {t:Nat} {ti:TI} (ht:T.get t=some ti) {cs cs':List Value} (hc:bg ι cs cs') {off:Nat} {v:Value} (hp:part ti cs off=some v) (w:World):
  ∃v',(Go.part t ⟨cs'⟩ off).run P w= .ok v' w∧bj ι v v':=by
 have ok:=hT t ti ht
 unfold part at hp
 cases hag:ti.isAgg with
 |true=>
  simp only [hag] at hp
  split at hp
  ·rename_i hle
   rw [Nat.ble_eq] at hle
   simp at hp
   subst hp
   refine ⟨.agg ⟨(cs'.drop off).take ti.size⟩,?_,.agg _ _ ((hc.drop _).take _)⟩
   simp only [Go.part,Sem.run_bind,ok.mG,Result.andThen_ok,hag,if_true,ok.run_sizeOf,Sem.run_pure]
   congr 2
   apply Array.ext'
   simp [List.extract_eq_take_drop]
  ·cases hp
 |false=>
  simp only [hag] at hp
  split at hp
  ·rename_i u r hr
   simp at hp
   subst hp
   obtain ⟨v',ji,bZ⟩:=hc.get (drop_cons hr)
   refine ⟨v',?_,bZ⟩
   simp [Go.part,ok.mG,hag,ji]
  ·cases hp
theorem kO {fields:Array Field} {fs:List (Nat×Nat)} (h:fs=fields.toList.map fun f=>(f.type,f.offset)) {f ft off:Nat} {r:List (Nat×Nat)} (hd:fs.drop f=(ft,off)::r):
  ∃F:Field,fields[f]? =some F∧F.type=ft∧F.offset=off:=by
 have:=drop_cons hd
 rw [h,List.getElem?_map] at this
 cases hF:fields.toList[f]? with
 |none=>simp [hF] at this
 |some F=>
  simp [hF] at this
  exact ⟨F,by simpa using hF,this.1,this.2⟩
theorem EM (hT:lG P T) {t:Nat} {x x':Value} (hx:bj ι x x') {f:Nat} {v:Value} (hl:iK T t x f=some v) (w:World):
  ∃v',(Instr.field t x' f).run P w= .ok v' w∧bj ι v v':=by
 unfold iK at hl
 split at hl
 ·rename_i fs _ _ _ cs ht
  split at hl
  ·rename_i ft off r uB
   split at hl
   ·rename_i ti BB
    have ok:=hT t _ ht
    obtain ⟨fields,hu,M0⟩:=ok.struct rfl
    obtain ⟨F,hF,rfl,rfl⟩:=kO M0 uB
    cases hx with
    |agg l l' fg=>
     obtain ⟨v',h1,h2⟩:=Ax (P:=P) hT BB fg hl w
     exact ⟨v',by simp [Instr.field,run_underlying hu,hF,asAgg,h1],h2⟩
   ·cases hl
  ·cases hl
 ·cases hl
theorem uT (hT:lG P T) {t:Nat} {x x':Value} (hx:bj ι x x') {f:Nat} {v:Value} (hl:eh T t x f=some v) (w:World):
  ∃v',(Instr.fieldAt t x' f).run P w= .ok v' w∧bj ι v v':=by
 unfold eh at hl
 split at hl
 ·rename_i fs _ _ _ a ht
  split at hl
  ·rename_i ft off r uB
   split at hl
   ·rename_i ti BB
    split at hl
    ·rename_i hpos
     rw [Nat.blt_eq] at hpos
     have ok:=hT t _ ht
     have okf:=hT ft _ BB
     obtain ⟨fields,hu,M0⟩:=ok.struct rfl
     obtain ⟨F,hF,rfl,rfl⟩:=kO M0 uB
     simp at hl
     subst hl
     cases hx with
     |ptr b o i hi=>
      refine ⟨_,?_,bj.ptr b (o+F.offset) i hi⟩
      have hne: ¬ti.size=0:=by omega
      simp [Instr.fieldAt,run_underlying hu,hF,Instr.sureAddr,fieldPlace,okf.run_sizeOf,hne,gm,Nat.add_assoc]
    ·cases hl
   ·cases hl
  ·cases hl
 ·cases hl
theorem uU (hT:lG P T) {t:Nat} {x x' ix IZ:Value} (hx:bj ι x x') (mM:bj ι ix IZ) {v:Value} (hl:ek T t x ix=some v) (w:World):
  ∃v',(Instr.indexAt t x' IZ).run P w= .ok v' w∧bj ι v v':=by
 unfold ek at hl
 split at hl
 ·rename_i e _ _ _ a len _ k i ht
  split at hl
  ·rename_i te ej
   split at hl
   ·rename_i hb
    have ok:=hT t _ ht
    have jY:=hT e _ ej
    have hu:=ok.slice rfl
    simp at hl
    subst hl
    cases mM
    cases hx with
    |slice b o l c c' j hj h1 h2=>
     refine ⟨_,?_,bj.ptr b (o+i.toNat*te.size) j hj⟩
     simp [Instr.indexAt,asIntOf,run_underlying hu,hb,jY.run_sizeOf,gm,Nat.add_assoc]
    |eA a a' i hi'=>simp at hb;omega
   ·cases hl
  ·cases hl
 ·rename_i len e _ _ _ a k i ht
  split at hl
  ·rename_i te ej
   split at hl
   ·rename_i hb
    have ok:=hT t _ ht
    have jY:=hT e _ ej
    have hu:=ok.array rfl
    simp at hl
    subst hl
    cases mM
    cases hx with
    |ptr b o j hj=>
     refine ⟨_,?_,bj.ptr b (o+i.toNat*te.size) j hj⟩
     simp [Instr.indexAt,asIntOf,run_underlying hu,hb,jY.run_sizeOf,gm,Nat.add_assoc,Instr.sureAddr]
   ·cases hl
  ·cases hl
 ·cases hl
theorem EN (hT:lG P T) {t:Nat} {x x' ix IZ:Value} (hx:bj ι x x') (mM:bj ι ix IZ) {v:Value} (hl:ij T t x ix=some v) (w:World):
  ∃v',(Instr.index t x' IZ).run P w= .ok v' w∧bj ι v v':=by
 unfold ij at hl
 split at hl
 ·rename_i len e _ _ _ cs k i ht
  split at hl
  ·rename_i te ej
   split at hl
   ·rename_i hb
    have ok:=hT t _ ht
    have jY:=hT e _ ej
    have hu:=ok.array rfl
    cases mM
    cases hx with
    |agg l l' fg=>
     obtain ⟨v',h1,h2⟩:=Ax (P:=P) hT ej fg hl w
     exact ⟨v',by simp [Instr.index,asIntOf,run_underlying hu,hb,jY.run_sizeOf,h1],h2⟩
   ·cases hl
  ·cases hl
 ·rename_i _ _ _ st k i ht
  split at hl
  ·rename_i hb
   split at hl
   ·rename_i b r hbr
    have ok:=hT t _ ht
    have hu:=ok.string rfl
    cases mM
    cases hx
    simp at hl
    subst hl
    have hd:=drop_cons hbr
    refine ⟨_,?_,.int _ _⟩
    have hs:st[i.toNat]? =some b:=by
     have hlt:i.toNat<st.data.toList.length:=(List.getElem?_eq_some_iff.1 hd).1
     have ot:i.toNat<st.size:=by rw [Array.length_toList] at hlt;exact hlt
     rw [getElem?_pos st i.toNat ot]
     rw [List.getElem?_eq_getElem hlt,Array.getElem_toList] at hd
     exact hd
    simp [Instr.index,asIntOf,run_underlying hu,hb,hs]
   ·cases hl
  ·cases hl
 ·cases hl
theorem yP {x x':Value} (hx:bj ι x x') {n:Nat} {vs:Array Value} (hv:x= .tuple vs) {v:Value} {r:List Value} (hl:vs.toList.drop n=v::r) (w:World):
  ∃v',(Instr.extract x' n).run P w= .ok v' w∧bj ι v v':=by
 subst hv
 cases hx with
 |tuple l l' h=>
  obtain ⟨v',ji,bZ⟩:=h.get (drop_cons hl)
  exact ⟨v',by simp [Instr.extract,ji],bZ⟩
def ny (ι:bN):Option Value→Option Value→Prop
 |none,none=>True
 |some v,some v'=>bj ι v v'
 |_,_=>False
theorem mF {x v':Value} {most most' dflt n:Nat} (hv:bj ι x v') (hle:most≤most') (hb:bound (some x) most dflt=some n) (code:BoundsCode) (w:World):
  (Instr.sliceBound v' most' code).run P w= .ok n w∧n≤most:=by
 unfold bound at hb
 split at hb
 ·rename_i h;cases h
 ·rename_i k i h
  cases h
  split at hb
  ·rename_i hi
   simp at hb
   subst hb
   cases hv
   have:0≤i∧i≤(most':Int):=by omega
   exact ⟨by simp [Instr.sliceBound,asIntOf,this],by omega⟩
  ·cases hb
 ·cases hb
theorem jm {lo lo' hi hi' mx uR:Option Value} (hlo:ny ι lo lo') (nF:ny ι hi hi') (rA:ny ι mx uR) (hno:hi=none→mx=none) {len cap cap' m h l:Nat} (hcap:cap≤cap')
  (bm:bound mx cap cap=some m) (bh:bound hi m len=some h) (bl:bound lo h 0=some l) (YH:Bool) (w:World):
  ∃m',(Instr.sliceBounds YH len cap' lo' hi' uR).run P w= .ok (l,h,m') w∧(m'=m∧m≤cap∨m=cap∧m'=cap')∧(lo≠none→l≤h)∧(lo=none→l=0):=by
 have hl: ∀code,(match lo' with
   |some v=>Instr.sliceBound v h code
   |none=>pure 0:Sem Nat).run P w= .ok l w∧(lo≠none→l≤h)∧(lo=none→l=0):=fun code=>by
  cases lo with
  |none=>
   cases lo' with
   |none=>simp [bound] at bl;subst bl;simp
   |some v=>exact hlo.elim
  |some x=>
   cases lo' with
   |none=>exact hlo.elim
   |some v=>
    have:=mF (P:=P) hlo (Nat.le_refl h) bl code w
    exact ⟨this.1,fun _=>this.2,fun h=>by cases h⟩
 cases mx with
 |none=>
  cases uR with
  |some v=>exact rA.elim
  |none=>
   simp [bound] at bm
   subst bm
   refine ⟨cap',?_,.inr ⟨rfl,rfl⟩,(hl .sliceB).2⟩
   have pX:=(hl .sliceB).1
   cases hi with
   |none=>
    cases hi' with
    |some v=>exact nF.elim
    |none=>
     simp [bound] at bh
     subst bh
     cases lo' with
     |none=>
      simp at pX
      subst pX
      simp [Instr.sliceBounds]
     |some u'=>
      simp at pX
      simp [Instr.sliceBounds,pX]
   |some x=>
    cases hi' with
    |none=>exact nF.elim
    |some v=>
     have hb:=fun code=>(mF (P:=P) nF hcap bh code w).1
     cases lo' with
     |none=>
      simp at pX
      subst pX
      simp [Instr.sliceBounds,hb]
     |some u'=>
      simp at pX
      simp [Instr.sliceBounds,hb,pX]
 |some y=>
  cases uR with
  |none=>exact rA.elim
  |some u=>
   have hm:=fun code=>mF (P:=P) rA hcap bm code w
   refine ⟨m,?_,.inl ⟨rfl,(hm .slice3B).2⟩,(hl .slice3C).2⟩
   have pX:=(hl .slice3C).1
   cases hi with
   |none=>simp at hno
   |some x=>
    cases hi' with
    |none=>exact nF.elim
    |some v=>
     have hb:=fun code=>(mF (P:=P) nF (Nat.le_refl m) bh code w).1
     cases lo' with
     |none=>
      simp at pX
      subst pX
      simp [Instr.sliceBounds,(hm _).1,hb]
     |some u'=>
      simp at pX
      simp [Instr.sliceBounds,(hm _).1,hb,pX]
theorem EP (hT:lG P T) {t:Nat} {x x':Value} {lo lo' hi hi' mx uR:Option Value} (hx:bj ι x x') (hlo:ny ι lo lo') (nF:ny ι hi hi') (rA:ny ι mx uR) (hno:hi=none→mx=none)
  {v:Value} (hl:fh T t x lo hi mx=some v) (w:World): ∃v',(Instr.sliceAt t x' lo' hi' uR).run P w= .ok v' w∧bj ι v v':=by
 unfold fh at hl
 split at hl
 ·cases hl
 ·rename_i ti ht
  have ok:=hT t ti ht
  split at hl
  ·rename_i st hk
   have hu:=ok.string hk
   split at hl
   ·cases hl
   ·split at hl
    ·cases hl
    ·rename_i h bh
     split at hl
     ·cases hl
     ·rename_i l bl
      simp at hl
      subst hl
      cases hx
      have Ah:uR=none:=by cases uR with
       |none=>rfl
       |some v=>exact rA.elim
      subst Ah
      obtain ⟨m',h1,_⟩:=jm (P:=P) (len:=st.size) (cap:=st.size) (cap':=st.size) hlo nF (show ny ι none none from trivial) (fun _=>rfl) (Nat.le_refl _) rfl bh bl false w
      refine ⟨_,?_,.string _⟩
      simp [Instr.sliceAt,run_underlying hu,Instr.slice,h1]
  ·rename_i e a len cap hk
   have hu:=ok.slice hk
   split at hl
   ·cases hl
   ·rename_i te ej
    have jY:=hT e te ej
    split at hl
    ·cases hl
    ·rename_i m bm
     split at hl
     ·cases hl
     ·rename_i h bh
      split at hl
      ·rename_i l bl hle
       rw [Nat.ble_eq] at hle
       cases hx with
       |oI l' c'=>
        simp at hl
        subst hl
        obtain ⟨m',h1,sN,_⟩:=jm (P:=P) hlo nF rA hno (Nat.le_refl _) bm bh bl true w
        have:m'=m:=by rcases sN with ⟨e,_⟩|⟨e,e'⟩<;>omega
        subst this
        refine ⟨_,?_,.oI _ _⟩
        simp [Instr.sliceAt,run_underlying hu,Instr.slice,h1,jY.run_sizeOf]
       |slice b o l' c' cr i hi' uz yw=>
        simp at hl
        subst hl
        obtain ⟨m',h1,sN,pX,uF⟩:=jm (P:=P) hlo nF rA hno uz bm bh bl true w
        have T9:l≤h:=by
         by_cases e:lo=none
         ·rw [uF e];omega
         ·exact pX e
        have Ub:m≤m':=by rcases sN with ⟨e,_⟩|⟨e,e'⟩<;>omega
        by_cases e:m'=l
        ·refine ⟨.slice (some ⟨i.r,i.o+o,none⟩) 0 0,?_,?_⟩
         ·have e1:h - l=0:=by omega
          simp [Instr.sliceAt,run_underlying hu,Instr.slice,h1,jY.run_sizeOf,e,e1]
         ·have e1:h - l=0:=by omega
          have e2:m - l=0:=by omega
          rw [e1,e2]
          exact .eA _ _ i hi'
        ·refine ⟨.slice (some ⟨i.r,i.o+(o+l*te.size),none⟩) (h - l) (m' - l),?_,.slice _ _ _ _ _ i hi' (by omega) (by rcases sN with ⟨e,_⟩|⟨e,e'⟩<;>omega)⟩
         simp [Instr.sliceAt,run_underlying hu,Instr.slice,h1,jY.run_sizeOf,e,gm,Nat.add_assoc]
       |eA a a' i hi'=>
        simp at hl
        subst hl
        obtain ⟨m',h1,sN,pX,uF⟩:=jm (P:=P) hlo nF rA hno (Nat.le_refl _) bm bh bl true w
        have hm0:m=0:=by rcases sN with ⟨e,_⟩|⟨e,e'⟩<;>omega
        have XW:m'=0:=by rcases sN with ⟨e,_⟩|⟨e,e'⟩<;>omega
        have KZ:l=0:=by
         by_cases e:lo=none
         ·exact uF e
         ·have:=pX e;omega
        have hh0:h=0:=by omega
        subst hm0 XW KZ hh0
        refine ⟨.slice (some a') 0 0,?_,.eA _ _ i hi'⟩
        simp [Instr.sliceAt,run_underlying hu,Instr.slice,h1,jY.run_sizeOf]
      ·cases hl
  ·rename_i n e a hk
   have hu:=ok.array hk
   split at hl
   ·cases hl
   ·rename_i te ej
    have jY:=hT e te ej
    split at hl
    ·cases hl
    ·rename_i m bm
     split at hl
     ·cases hl
     ·rename_i h bh
      split at hl
      ·rename_i l bl hle
       rw [Nat.ble_eq] at hle
       simp at hl
       subst hl
       cases hx with
       |ptr b o i hi'=>
        obtain ⟨m',h1,sN,pX,uF⟩:=jm (P:=P) hlo nF rA hno (Nat.le_refl _) bm bh bl false w
        have T9:l≤h:=by
         by_cases e:lo=none
         ·rw [uF e];omega
         ·exact pX e
        have Ub:m'=m:=by rcases sN with ⟨e,_⟩|⟨e,e'⟩<;>omega
        subst Ub
        by_cases e:m'=l
        ·refine ⟨.slice (some ⟨i.r,i.o+o,none⟩) 0 0,?_,?_⟩
         ·have e1:h - l=0:=by omega
          simp [Instr.sliceAt,run_underlying hu,Instr.sureAddr,h1,jY.run_sizeOf,e,e1]
         ·have e1:h - l=0:=by omega
          have e2:m' - l=0:=by omega
          rw [e1,e2]
          exact .eA _ _ i hi'
        ·refine ⟨.slice (some ⟨i.r,i.o+(o+l*te.size),none⟩) (h - l) (m' - l),?_,.slice _ _ _ _ _ i hi' (Nat.le_refl _) (by omega)⟩
         simp [Instr.sliceAt,run_underlying hu,Instr.sureAddr,h1,jY.run_sizeOf,e,gm,Nat.add_assoc]
      ·cases hl
  ·cases hl
end Go.Vm
end
