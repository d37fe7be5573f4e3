/-
  A part of the proof of PromiseBytes: lemmas, in short letters, printed by a program out of the longer texts; conditions: those that each lemma names.
-/
import Derived.Test.YtalmddmghdinkaaGreatDoorQ
set_option linter.all false
set_option linter.deprecated false
noncomputable section
namespace Go.Vm.X
open Go
def lh (t:Reach) (lo hi:Nat) (z:List Nat):Fl:=⟨⟨t,some [],lo,hi⟩,z⟩
theorem sf:(∀(v:V) (s:S) (x:Fl) (k:V→S→Fl→bB),ai (some (v,s,x)) k=k v s x)∧(∀(s:S) (o:mI),aj none s o=o)∧(∀(t:Reach) (s:S) (v:V),ar t s (some v)=some (v,s,lh t s.n s.n []))∧
  (∀(s:S) (o:mI),aj (some (.bool true,true)) s o=o)∧(∀(s:S) (o:mI),aj (some (.bool false,false)) s o=o)∧(∀(s:S) (o:mI),aj (some (.bool true,false)) s o=some (.dQ [],s,lh (some []) s.n s.n []))∧
  (∀(s:S) (o:mI),aj (some (.bool false,true)) s o=some (.dQ [],s,lh (some []) s.n s.n []))∧(∀(s:S) (w:Bool) (o:mI),aj (some (.dQ [],w)) s o=some (.dQ [],s,lh (some []) s.n s.n []))∧
  (∀(s:S) (v:V),bk s v=some (v,s,lh (some []) s.n s.n [])):=
 ⟨fun v s x k=>by rw [vQ],fun _ _=>rfl,fun _ _ _=>rfl,fun _ _=>rfl,fun _ _=>rfl,fun _ _=>rfl,fun _ _=>rfl,fun _ _ _=>rfl,fun _ _=>rfl⟩
theorem jz {cf:CF} {f:Nat} {args:List V} {v:V} (hc:jK cf f args v) (ha:args.all az=true) {s:S} (hs:s.wm≤s.n):aH cf (.fn f [] []) args s=some (v,s,lh none s.n s.n []):=by
 unfold aH
 rw [jQ ha]
 simp only [List.nil_append,List.append_nil]
 rw [ib _ ha]
 simp only []
 rw [hc { s with wm:=s.n } rfl]
 have:Nat.blt s.n s.n=false:=by cases h:Nat.blt s.n s.n with
  |false=>rfl
  |true=>rw [Nat.blt_eq] at h;omega
 simp only [this,least]
 rw [Nat.min_eq_left hs]
 rfl
theorem dM {cf:CF} {f:Nat} {args:List V} {P:V→Prop} (hc:eL cf f args P) (ha:args.all az=true) {s:S} (hs:s.wm≤s.n): ∃v,P v∧aH cf (.fn f [] []) args s=some (v,s,lh none s.n s.n []):=by
 obtain ⟨v,hv,h⟩:=hc (aw s) rfl
 refine ⟨v,hv,?_⟩
 unfold aH
 rw [jQ ha]
 simp only [List.nil_append,List.append_nil]
 rw [ib _ ha]
 simp only []
 have h':cf f args { s with wm:=s.n } =some (v,aw s):=h
 rw [h']
 have:Nat.blt s.n s.n=false:=by cases h:Nat.blt s.n s.n with
  |false=>rfl
  |true=>rw [Nat.blt_eq] at h;omega
 simp only [aw,this,least]
 rw [Nat.min_eq_left hs]
 rfl
theorem xZ {cf:CF} {f:Nat} {args args':List V} {bs:List Nat} {s₀ s s₁:S} {P:V→Prop} (hl:Loc s₀ s) (ha:bK (aw s) args args' bs s₁) (hb: ∀b,b∈bs→s₀.n≤b) (hc:eL cf f args' P):
  ∃v,P v∧ ∃s',aH cf (.fn f [] []) args s=some (v,s',lh none s.n s.n bs)∧Loc s₀ s'∧Kp s s' bs∧s'.n=s.n∧ ∀c cs,Rd s c cs→Rd s' c cs:=by
 have h0:=hl.n
 have h1:=hl.fx
 have h2:=hl.wm
 have hn:=ha.n
 have hw:s₁.wm=s₁.n:=by rw [hn.1,hn.2];rfl
 obtain ⟨v,hv,h⟩:=hc s₁ hw
 refine ⟨v,hv,?_⟩
 unfold aH
 rw [ha.bad]
 simp only [List.nil_append,List.append_nil]
 have hr:dA args { s with wm:=s.n } =(args',bs,s₁):=ha.run
 rw [hr]
 simp only []
 rw [h]
 have wK:s₁.wm=s.n:=hn.2
 have lY:s₁.n=s.n:=hn.1
 have:Nat.blt s₁.wm s.n=false:=by cases h:Nat.blt s₁.wm s.n with
  |false=>rfl
  |true=>rw [Nat.blt_eq] at h;omega
 simp only [this,lY]
 refine ⟨_,rfl,⟨by simp only [lY];exact h0,iB hb (by omega),Nat.le_trans kG (by simp only [lY];omega)⟩,⟨by simp only [lY];omega,fun c _ hc=> ?_⟩,by simp only [lY],fun c cs hcs=> ?_⟩
 ·exact ha.out hc
 ·obtain ⟨e,bL,own,hg⟩:=hcs
  exact ha.rd ⟨e,bL,own,hg⟩
theorem lN {cf:CF} {f:Nat} {args args':List V} {bs:List Nat} {s₀ s s₁:S} {e z l:Nat} {cs:List V} (hl:Loc s₀ s) (ha:bK (aw s) args args' bs s₁) (hb: ∀b,b∈bs→s₀.n≤b) (hc:s₁.wm=s₁.n→fE s₁ e z l cs (cf f args' s₁)) (hcs:cs.length=l*z):
  ∃v s' hi,aH cf (.fn f [] []) args s=some (v,s',lh none s.n hi bs)∧Ow s₀ s' e z v l cs∧Loc s₀ s'∧Kp s s' bs∧(∀b,b∈aA v→s.n≤b)∧ ∀c cs,Rd s c cs→c<s.n→Rd s' c cs:=by
 have h0:=hl.n
 have h1:=hl.fx
 have h2:=hl.wm
 have hn:=ha.n
 have lY:s₁.n=s.n:=hn.1
 have wK:s₁.wm=s.n:=hn.2
 have hw:s₁.wm=s₁.n:=by omega
 unfold aH
 rw [ha.bad]
 simp only [List.nil_append,List.append_nil]
 have hr:dA args { s with wm:=s.n } =(args',bs,s₁):=ha.run
 rw [hr]
 simp only []
 have z9: ∀m,m=s.n→Nat.blt m s.n=false:=by
  intro m hm
  cases h:Nat.blt m s.n with
  |false=>rfl
  |true=>rw [Nat.blt_eq] at h;omega
 rcases hc hw with ⟨rfl,rfl,h⟩|⟨bL,h⟩
 ·rw [h]
  simp only [z9 _ wK]
  exact ⟨_,_,_,rfl,.nil,⟨by simp only [lY];exact h0,iB hb (by omega),Nat.le_trans kG (by simp only [lY];omega)⟩,⟨by simp only [lY];omega,fun c _ hc=>ha.out hc⟩,fun b hb=>(by simp [aA] at hb),fun c cs hcs _=>ha.rd hcs⟩
 ·rw [h]
  simp only [newObj,z9 _ wK]
  refine ⟨_,_,_,rfl,.aF _ _ _ bL ⟨by omega,by simp only [];omega,by simp only [];exact Tr.aQ _ _ _⟩ hcs,⟨by simp only [lY];omega,iB hb (by omega),Nat.le_trans kG (by simp only [lY];omega)⟩,⟨by simp only [lY];omega,fun c hlt hc=> ?_⟩,fun b hb=>by simp [aA] at hb;omega,fun c cs hcs hlt=> ?_⟩
  ·simp only []
   rw [Tr.aK _ _ (by omega)];exact ha.out hc
  ·obtain ⟨e',sk,fJ,hg⟩:=ha.rd hcs
   exact ⟨e',sk,fJ,by simp only [];rw [Tr.aK _ _ (by omega)];exact hg⟩
theorem jw {cf:CF} {f:Nat} {args:List V} {s₀ s:S} {e z l:Nat} {cs:List V} (hl:Loc s₀ s) (ha:args.all cm=true) (hc:xM cf f args e z l cs) (hcs:cs.length=l*z):
  ∃v s' hi,aH cf (.fn f [] []) args s=some (v,s',lh none s.n hi [])∧Ow s₀ s' e z v l cs∧Loc s₀ s'∧Kp s s' []∧(∀b,b∈aA v→s.n≤b):=
 let ⟨v,s',hi,h1,h2,h3,h4,h5,_⟩:=lN hl (bK.ats _ ha) (fun b hb=>by cases hb) (hc _) hcs
 ⟨v,s',hi,h1,h2,h3,h4,h5⟩
theorem qq {cf:CF} {f:Nat} {args:List V} {s₀ s:S} {e:Nat} {k:IntKind} {P:List Int→Prop} (hl:Loc s₀ s) (ha:args.all cm=true) (hc:AR cf f args e k P):
  ∃l,P l∧ ∃v s' hi,aH cf (.fn f [] []) args s=some (v,s',lh none s.n hi [])∧Ow s₀ s' e 1 v l.length (l.map (V.int k))∧Loc s₀ s'∧Kp s s' []∧(∀b,b∈aA v→s.n≤b):=by
 obtain ⟨l,hp,h⟩:=hc (aw s) rfl
 obtain ⟨v,s',hi,h1,h2,h3,h4,h5,_⟩:=lN hl (bK.ats (aw s) ha) (fun b hb=>by cases hb) (fun _=>h) (by simp)
 exact ⟨l,hp,v,s',hi,h1,h2,h3,h4,h5⟩
theorem Ow.aw {s₀ s:S} {e z l:Nat} {x:V} {cs:List V} (hx:Ow s₀ s e z x l cs):Ow s₀ (X.aw s) e z x l cs:=by
 cases hx with
 |nil=>exact .nil
 |aF b l cs bL h hl=>exact .aF b l cs bL ⟨h.lo,h.hi,h.get⟩ hl
theorem B9 {s₀ s:S} {e z l:Nat} {x:V} {cs:List V} (aS9 rest:List V) (hx:Ow s₀ s e z x l cs) (ha:cs.all atom=true) (has:aS9.all cm=true) (hr:rest.all cm=true):
  ∃x' s₁,bK (X.aw s) (aS9++x::rest) (aS9++x'::rest) (aA x) s₁∧Fs z x' l cs:=by
 obtain ⟨x',bs,h1,h2,rfl⟩:=hx.aw.fz ha
 have h3:=bK.cons _ _ x x' _ rest rest [] (.one _ _ _ h1) (bK.ats (mark (aA x) (X.aw s)) hr)
 rw [List.append_nil] at h3
 refine ⟨x',mark (aA x) (X.aw s),?_,h2⟩
 clear h1
 induction aS9 with
 |nil=>exact h3
 |cons a aS9 ih=>
  simp only [List.all_cons,Bool.and_eq_true] at has
  have hA:xV (X.aw s) a a []:=by
   have h:=has.1
   unfold cm at h
   split at h
   ·exact .agg _ _ _ (zn.atoms h)
   ·exact .one _ _ _ (.at _ h)
  exact bK.cons _ _ a a [] _ _ _ hA (ih has.2)
theorem dX.mN {s₀ s:S} {b t:Nat} {bL:Bool} {cs l:List V} {z:Nat} {r w:Reach} (h:dX s₀ s b cs t bL) (hl:Loc s₀ s) (hz:l.length=z) (hc:cs.length=z) (hx:l.all aR=true):
  ∃s',dD r w s (aB z (.ptr b 0) (.agg l) (aw s))=some (.bad,s',⟨⟨r,w,s.n,s.n⟩, []⟩)∧dX s₀ s' b l t bL∧Loc s₀ s'∧Kp s s' [b]∧s'.n=s.n:=by
 obtain ⟨s',e1,b1,l1,k1,n1⟩:=h.put hl hz hc hx
 have hi:=h.hi
 have hw:=kh (s:=aw s) h.get (j:=0) (l:=l) (by omega) hx
 have hb:Nat.beq l.length z=true:=by rw [Nat.beq_eq];exact hz
 have hst:aB z (.ptr b 0) (.agg l) (aw s)=some (.bad, { aw s with h:=(aw s).h.set b (.cells (bY cs 0 l) t bL true),wm:=min (aw s).wm b }):=by
  simp only [aB,bc,hb,hw]
 rw [hst] at e1 ⊢
 refine ⟨s',?_,b1,l1,k1,n1⟩
 simp only [aq,Option.some.injEq,Prod.mk.injEq,true_and] at e1
 unfold dD
 have hlt:Nat.blt (min (aw s).wm b) s.n=true:=by rw [Nat.blt_eq];simp only [aw];omega
 simp only [hlt]
 rw [e1]
 rfl
theorem wB {m:List Nat} {l:List Fl} {k:bB} (h:bE m l=true):bU (bE m l) k=k:=by rw [h];rfl
theorem qO {α:Type} {l:List α} {x:α} {i:Nat} (h:(x,i)∈l.zipIdx):l[i]? =some x:=by
 have:=List.mem_zipIdx_iff_getElem?.1 h
 exact this
theorem q9 {m:List Nat} {l:List Fl} (h: ∀i x,l[i]? =some x→x.f.w=some []∨(∃b bs,x.f.w=some (b::bs)∧(∀y,y∈l→ ∀c,c∈b::bs→c∉y.z))∧ ∀j,j<l.length→fixed m i j=true):bE m l=true:=by
 unfold bE
 rw [Bool.and_eq_true]
 constructor
 ·rw [List.all_eq_true]
  rintro ⟨x,i⟩ hx
  have hx':=qO hx
  rcases h i x hx' with h1|⟨⟨b,bs,h1,_⟩,h2⟩
  ·simp only [h1]
  ·simp only [h1]
   rw [List.all_eq_true]
   rintro ⟨y,j⟩ hy
   have hj:=(List.getElem?_eq_some_iff.1 (qO hy)).1
   simp only [h2 j hj,Bool.or_true]
 ·unfold MF
  rw [Bool.and_eq_true]
  constructor
  ·rw [List.all_eq_true]
   intro x hx
   split
   ·rfl
   ·rename_i z hz
    rw [List.all_eq_true]
    intro y hy
    obtain ⟨j,hj⟩:=List.getElem?_of_mem hy
    rcases h j y hj with h1|⟨⟨b,bs,h1,h3⟩,h2⟩
    ·rw [h1];rfl
    ·rw [h1]
     have h4:=h3 x hx
     cases QX:x.z with
     |nil=>simp [Reach.meets]
     |cons c cs=>
      simp only [Reach.meets]
      rw [Bool.not_eq_true',List.any_eq_false]
      intro c' xR he
      exact h4 c' xR (by rw [QX];simpa using he)
  ·rw [Bool.or_eq_true]
   left
   rw [List.all_eq_true]
   intro x hx
   obtain ⟨j,hj⟩:=List.getElem?_of_mem hx
   rcases h j x hj with h1|⟨⟨b,bs,h1,_⟩,_⟩<;>rw [h1]<;>rfl
theorem Hc {m:List Nat} {fl:List Fl} {x:Fl} {b:Nat} {bs:List Nat} (hf:(List.range (fl.length+1)).all (fun j=>fixed m fl.length j)=true) (hw:x.f.w=some (b::bs)) (QX:x.z= []) (h: ∀y,y∈fl→y.f.w=some []∧ ∀c,c∈b::bs→c∉y.z):bE m (fl++ [x])=true:=by
 apply q9
 intro i y hy
 by_cases hi:i<fl.length
 ·rw [List.getElem?_append_left hi] at hy
  exact .inl (h y (List.mem_of_getElem? hy)).1
 ·rw [List.getElem?_append_right (by omega)] at hy
  have:i=fl.length:=by
   by_cases h0:i - fl.length=0
   ·omega
   ·rw [List.getElem?_eq_none (by simp;omega)] at hy;cases hy
  subst this
  simp only [Nat.sub_self,List.getElem?_cons_zero,Option.some.injEq] at hy
  subst hy
  refine .inr ⟨⟨b,bs,hw,fun y hy=> ?_⟩,fun j hj=> ?_⟩
  ·rcases List.mem_append.1 hy with hy|hy
   ·exact (h y hy).2
   ·simp only [List.mem_singleton] at hy;subst hy;rw [QX];intro c _ hc;cases hc
  ·rw [List.length_append] at hj
   exact List.all_eq_true.1 hf j (by rw [List.mem_range];simpa using hj)
theorem Hb {m:List Nat} {fl:List Fl} (h: ∀y,y∈fl→y.f.w=some []):bE m fl=true:=
 q9 fun _ _ hx=> .inl (h _ (List.mem_of_getElem? hx))
def Qs (bs:List Nat):List Fl→Prop
 | []=>True
 |x::l=>(x.f.w=some []∧ ∀c,c∈bs→c∉x.z)∧Qs bs l
theorem Qs.mem {bs:List Nat} : ∀ {l:List Fl},Qs bs l→ ∀y,y∈l→y.f.w=some []∧ ∀c,c∈bs→c∉y.z
 |_::_,h,y,hy=>(List.mem_cons.1 hy).elim (fun e=>e ▸ h.1) (h.2.mem y)
theorem Qs.c0 {bs:List Nat} {l:List Fl} {t:Reach} {lo hi:Nat} (h:Qs bs l):Qs bs (lh t lo hi []::l):=⟨⟨rfl,fun _ _ h=>by cases h⟩,h⟩
theorem Qs.cz {bs:List Nat} {l:List Fl} {t:Reach} {lo hi:Nat} {z:List Nat} (hz: ∀c,c∈bs→c∉z) (h:Qs bs l):Qs bs (lh t lo hi z::l):=⟨⟨rfl,hz⟩,h⟩
theorem vA {m:List Nat} {fl:List Fl} {r:Reach} {lo hi b:Nat} (n:Nat) (hn:fl.length=n) (hf:(List.range (n+1)).all (fun j=>fixed m n j)=true) (h:Qs [b] fl):bE m (fl++ [⟨⟨r,some [b],lo,hi⟩, []⟩])=true:=
 Hc (by rw [hn];exact hf) rfl rfl h.mem
theorem J0 {m:List Nat} {fl:List Fl} (h:Qs [] fl):bE m fl=true:=Hb fun y hy=>(h.mem y hy).1
theorem wU {s:S} {P:V→Prop} {m:List Nat} {l:List Fl} {k:bB} (h:bE m l=true) (h':bW s P k):bW s P (bU (bE m l) k):=by rw [wB h];exact h'
theorem wN {s:S} {e z n:Nat} {cs:List V} {m:List Nat} {l:List Fl} {k:bB} (h:bE m l=true) (h':fE s e z n cs k):fE s e z n cs (bU (bE m l) k):=by rw [wB h];exact h'
theorem lM {cf:CF} {dr st:Bool} {f:Nat} {args args':List V} {bs:List Nat} {s₀ s s₁:S} {P:V→Prop} (hl:Loc s₀ s) (ha:bK (aw s) args args' bs s₁) (hb: ∀b,b∈bs→s₀.n≤b) (hd:st=true→dr=true→bs= []) (hc:eL cf f args' P):
  ∃v,P v∧ ∃s',au cf dr st (.fn f [] []) args s=some (v,s')∧Loc s₀ s'∧Kp s s' bs∧s'.n=s.n∧ ∀c cs,Rd s c cs→Rd s' c cs:=by
 have hn:=ha.n
 have hw:s₁.wm=s₁.n:=by rw [hn.1,hn.2];rfl
 obtain ⟨v,hv,h⟩:=hc s₁ hw
 refine ⟨v,hv,?_⟩
 have lY:s₁.n=s.n:=hn.1
 have wK:s₁.wm=s.n:=hn.2
 have h0:=hl.n
 have h1:=hl.fx
 have h2:=hl.wm
 unfold au
 rw [ha.bad]
 simp only [List.nil_append,List.append_nil]
 have hr:dA args { s with wm:=s.n } =(args',bs,s₁):=ha.run
 rw [hr]
 simp only []
 rw [h]
 have gj:xa dr st bs (Nat.ble s.n s₁.wm)=true:=by
  have:Nat.ble s.n s₁.wm=true:=by rw [Nat.ble_eq,wK];exact Nat.le_refl _
  rw [this]
  cases dr with
  |false=>rfl
  |true=>cases st with
   |false=>rfl
   |true=>rw [hd rfl rfl];rfl
 simp only [gj]
 refine ⟨_,rfl,⟨by simp only [lY];exact h0,iB hb (by omega),Nat.le_trans kG (by simp only [lY];omega)⟩,⟨by simp only [lY];omega,fun c _ hc=>ha.out hc⟩,lY,fun c cs hcs=> ?_⟩
 obtain ⟨e,bL,own,hg⟩:=hcs
 exact ha.rd ⟨e,bL,own,hg⟩
theorem gz {s₀ s:S} {b t z:Nat} {bL:Bool} {cs l:List V} (h:dX s₀ s b cs t bL) (hl:Loc s₀ s) (h0:s₀.wm=s₀.n) (hz:l.length=z) (hc:cs.length=z) (ha:l.all atom=true):
  (af (aq s (aB z (.ptr b 0) (.agg l) (aw s))) fun _ s'=>aC s₀ s' [aD z s' (.ptr b 0)])=some (.agg l,s₀):=by
 have hs:l.all aR=true:=by
  rw [List.all_eq_true] at ha ⊢
  exact fun x hx=>mv (ha x hx)
 obtain ⟨s',e1,b1,l1,_,_⟩:=h.put hl hz hc hs
 rw [e1,bS,eV b1.rd (show 0+z≤l.length by omega),List.drop_zero,List.take_of_length_le (by omega)]
 exact aO ha (by omega) l1.fx
theorem Fq {s s':S} {o:Option (V×S)} {v:V} {r w:Reach} (h:aq s o=some (v,s')): ∃t,o=some (v,t)∧dD r w s o=some (v,s',⟨⟨r,(match Nat.blt t.wm s.n with
  |true=>w
  |false=>some []),s.n,t.n⟩, []⟩):=by
 cases o with
 |none=>cases h
 |some p=>
  obtain ⟨u,t⟩:=p
  simp only [aq,Option.some.injEq,Prod.mk.injEq] at h
  obtain ⟨rfl,rfl⟩:=h
  exact ⟨t,rfl,rfl⟩
theorem zp {s₀ s:S} {e z l n:Nat} {te:TI} {x y:V} {cs d:List V} {r w:Reach} (hl:Loc s₀ s) (hx:Ow s₀ s e z x l cs) (qk:dB y=false) (hst: ∀t,y≠ .str t) (hi:items te (aw s) y=some (n,d)) (hd:d.all aR=true) (nD:d.length=n*z)
  (hs:te.size=z) (hb:0<te.bytes) (hlen:(l+n)*te.bytes≤140737488355328):
  ∃v' s' w' hi,dD r w s (bT te e x y (aw s))=some (v',s',⟨⟨r,w',s.n,hi⟩, []⟩)∧Ow s₀ s' e z v' (l+n) (cs++d)∧Loc s₀ s'∧Kp s s' (aA x)∧(∀b,b∈aA v'→b∈aA x∨s.n≤b)∧(w'=some []∨(w'=w∧ ∀b,b∈aA v'→s.n≤b)):=by
 obtain ⟨v',s',h1,h2,h3,h4,h5,t',h6,h7⟩:=Ij hl hx qk hst hi hd nD hs hb hlen
 obtain ⟨t,h8,h9⟩:=Fq (r:=r) (w:=w) h1
 rw [h6] at h8
 obtain ⟨_,rfl⟩:v'=v'∧t'=t:=by simpa using h8
 refine ⟨v',s',_,_,h9,h2,h3,h4,h5,?_⟩
 rcases h7 with h7|h7
 ·left
  have:Nat.blt t'.wm s.n=false:=by cases h:Nat.blt t'.wm s.n with
   |false=>rfl
   |true=>rw [Nat.blt_eq] at h;omega
  rw [this]
 ·cases Nat.blt t'.wm s.n with
  |false=>exact .inl rfl
  |true=>exact .inr ⟨rfl,h7⟩
theorem Ii {s₀ s:S} {e z l n:Nat} {te:TI} {x y:V} {cs d:List V} {r w:Reach} (hl:Loc s₀ s) (hx:Ow s₀ s e z x l cs) (hy:Fs z y n d) (hd:d.all aR=true)
  (hs:te.size=z) (hb:0<te.bytes) (hlen:(l+n)*te.bytes≤140737488355328):
  ∃v' s' w' hi,dD r w s (bT te e x y (aw s))=some (v',s',⟨⟨r,w',s.n,hi⟩, []⟩)∧Ow s₀ s' e z v' (l+n) (cs++d)∧Loc s₀ s'∧Kp s s' (aA x)∧(∀b,b∈aA v'→b∈aA x∨s.n≤b)∧(w'=some []∨(w'=w∧ ∀b,b∈aA v'→s.n≤b)):=
 zp hl hx (by cases hy<;>rfl) (by cases hy<;>simp) (hy.items hs _) hd hy.cells hs hb hlen
theorem vO {s₀ s:S} {e z l n:Nat} {te:TI} {x y:V} {cs d:List V} {r w:Reach} (hl:Loc s₀ s) (hx:Ow s₀ s e z x l cs) (hy:Ow s₀ s e z y n d) (hd:d.all aR=true)
  (hs:te.size=z) (hb:0<te.bytes) (hlen:(l+n)*te.bytes≤140737488355328):
  ∃v' s' w' hi,dD r w s (bT te e x y (aw s))=some (v',s',⟨⟨r,w',s.n,hi⟩, []⟩)∧Ow s₀ s' e z v' (l+n) (cs++d)∧Loc s₀ s'∧Kp s s' (aA x)∧(∀b,b∈aA v'→b∈aA x∨s.n≤b)∧(w'=some []∨(w'=w∧ ∀b,b∈aA v'→s.n≤b)):=
 zp hl hx hy.bad hy.str (hy.items hs (fun _ _=>rfl)) hd hy.cells hs hb hlen
def Ds (m:List Nat) (n:Nat) (zs:List Nat):Nat→List Fl→Prop
 |_, []=>True
 |i,x::l=>((x.f.w=some []∨ ∃bs,x.f.w=some bs∧(∀b,b∈bs→b∉zs)∧(List.range n).all (fun j=>fixed m i j)=true)∧ ∀c,c∈x.z→c∈zs)∧Ds m n zs (i+1) l
theorem Ds.at {m:List Nat} {n:Nat} {zs:List Nat} : ∀ {l:List Fl} {i j:Nat} {x:Fl},Ds m n zs i l→l[j]? =some x→(x.f.w=some []∨ ∃bs,x.f.w=some bs∧(∀b,b∈bs→b∉zs)∧(List.range n).all (fun k=>fixed m (i+j) k)=true)∧ ∀c,c∈x.z→c∈zs
 |x::l,i,0,y,h,hj=>by simp at hj;subst hj;exact h.1
 |x::l,i,j+1,y,h,hj=>by
  have:=Ds.at (j:=j) h.2 (by simpa using hj)
  rwa [show i+1+j=i+(j+1) by omega] at this
theorem Iy {m:List Nat} {l:List Fl} (zs:List Nat) (n:Nat) (hn:l.length=n) (h:Ds m n zs 0 l):bE m l=true:=by
 apply q9
 intro i x hx
 rcases (h.at hx).1 with h1|⟨bs,h1,h2,h3⟩
 ·exact .inl h1
 ·cases bs with
  |nil=>exact .inl h1
  |cons b bs=>
   refine .inr ⟨⟨b,bs,h1,fun y hy c hc hz=> ?_⟩,fun j hj=> ?_⟩
   ·obtain ⟨k,hk⟩:=List.getElem?_of_mem hy
    exact h2 c hc ((h.at hk).2 c hz)
   ·have:=List.all_eq_true.1 h3 j (by rw [List.mem_range];omega)
    rwa [Nat.zero_add] at this
theorem Ds.c0 {m:List Nat} {n i:Nat} {zs:List Nat} {l:List Fl} {t:Reach} {lo hi:Nat} (h:Ds m n zs (i+1) l):Ds m n zs i (lh t lo hi []::l):=⟨⟨.inl rfl,fun _ h=>by cases h⟩,h⟩
theorem Ds.cz {m:List Nat} {n i:Nat} {zs:List Nat} {l:List Fl} {t:Reach} {lo hi:Nat} {z:List Nat} (hz: ∀c,c∈z→c∈zs) (h:Ds m n zs (i+1) l):Ds m n zs i (lh t lo hi z::l):=⟨⟨.inl rfl,hz⟩,h⟩
theorem Ds.cw {m:List Nat} {n i:Nat} {zs:List Nat} {l:List Fl} {t w:Reach} {lo hi:Nat} (hw:w=some []∨ ∃bs,w=some bs∧ ∀b,b∈bs→b∉zs) (hf:(List.range n).all (fun j=>fixed m i j)=true) (h:Ds m n zs (i+1) l):Ds m n zs i (⟨⟨t,w,lo,hi⟩, []⟩::l):=
 ⟨⟨hw.imp id fun ⟨bs,h1,h2⟩=>⟨bs,h1,h2,hf⟩,fun _ h=>by cases h⟩,h⟩
end Go.Vm.X
end
noncomputable section
namespace Go.Vm.X
open Go Go.Vm Go.Proofs.bt
theorem xI:iE.size=1:=rfl
theorem dO:iE.bytes=1:=rfl
theorem JJ (n:Int) (h1: -9223372036854775808≤n) (h2:n≤9223372036854775807):xM cx 101 [.int .i64 n] 5 1 (dH n).length (Bs (dH n)):=fun s hs=>
 (Nr (aE (by decide))).runN (mag n+20) (by
  show fE s 5 1 _ _ (F5 cx _ (.int .i64 n) s)
  have hm:mag n<2 ^ 63:=by unfold mag;split<;>omega
  have hlen:(dg (mag n)).length≤8:=lO 8 _ (by omega)
  have QF:=q6 (mag n) (mag n) (Nat.le_refl _)
  generalize hD:dg (mag n)=D at hlen QF
  have sN:(n<0∧(-1 - n)=(mag n:Int))∨(¬n<0∧n=(mag n:Int)):=by unfold mag;split<;>omega
  generalize hM:mag n=M at hm sN hD
  unfold F5
  rcases sN with ⟨hn,hx⟩|⟨hn,hx⟩<;>(
   simp (disch:=omega) only [jN,st,si,br]
   refine aP (fE s 5 1 _ _) (fun k vs t=> ∃(x:V) (d:List Int),vs= [.int .i64 (k:Int),x,.int .i64 n]∧Loc s t∧Ow s t 5 1 x d.length (Bs d)∧d++dg k=D∧k≤M) ?_ _ M _ _ ⟨.ah, [],by rw [←hx],Loc.refl hs,.nil,by simpa using hD,Nat.le_refl _⟩ (by omega)
   rintro ih k _ t ⟨x,d,rfl,hl,ho,hd,hkM⟩ eZ
   by_cases hk:k=0
   ·subst hk
    rw [gP,List.append_nil] at hd
    subst hd
    have hE:dH n=(if n<0 then 127 - (d.length:Int) else 128+d.length)::(d.take d.length).reverse.map fun x=>if n<0 then 255 - x else x:=by unfold dH;rw [hM,hD,List.take_length]
    rw [hE]
    simp only [hn, ↓reduceIte]
    simp (disch:=omega) only [jN,st,si,br,ho.len,eG,MD]
    obtain ⟨out,t1,e1,o1,l1,k1,b1⟩:=mR (z:= .int .u8 0) (d:= .int .u8 (if n<0 then 127 - (d.length:Int) else 128+d.length)) (te:=iE) (e:=5) hl Ow.nil rfl rfl (by decide) (by decide)
    simp only [hn, ↓reduceIte] at e1 o1
    rw [e1]
    simp (disch:=omega) only [jN,st,si,br]
    have K5:=ho.kp k1 (fun b _=>by simp [aA])
    have hbx: ∀b,b∈aA x→b<t.n:=fun b hb=>(ho.lo hb).2
    refine aP (fE s 5 1 _ _) (fun k vs t=> ∃(out:V) (o:List Int),vs= [.int .i64 ((k:Int) - 1),x,.int .i64 n,out]∧Loc s t∧Ow s t 5 1 out o.length (Bs o)∧Ow s t 5 1 x d.length (Bs d)∧(∀b,b∈aA x→b∉aA out)∧
     o++(d.take k).reverse.map (fun x=>if n<0 then 255 - x else x)=dH n∧k≤d.length) ?_ _ d.length _ _
     ⟨out, [if n<0 then 127 - (d.length:Int) else 128+d.length],rfl,l1,by simpa [hn] using o1,K5,fun b hb gY=> ?_,hE.symm,Nat.le_refl _⟩ (by omega)
    ·rintro ih k _ t' ⟨out,o,rfl,hl,ho,hx',hne,he,hk⟩ eZ
     by_cases vE:k=0
     ·subst vE
      simp (disch:=omega) only [jN,st,si]
      rw [List.take_zero,List.reverse_nil,List.map_nil,List.append_nil] at he
      subst he
      rw [hE] at ho
      simp only [hn, ↓reduceIte] at ho
      exact eP hs hl ho (aS _ _)
     ·simp (disch:=omega) only [jN,st,si]
      obtain ⟨p,hp,hq⟩:=hx'.at .i64 (i:=(k:Int) - 1) (by omega) (by omega)
      rw [mD _ (by omega),show ((k:Int) - 1).toNat=k - 1 by omega] at hq
      have hr:=QF (d.getD (k - 1) 0) (dh d 0 (by omega))
      rw [xD _ _ 0 (by omega) hk] at he
      have hol:o.length+1≤20:=by
       have:=congrArg List.length he
       rw [lQ,hM,hD] at this
       simp at this;omega
      simp (disch:=omega) only [jN,st,si,hp,hq,MD]
      obtain ⟨x',t'',e',o',l',k',b'⟩:=mR (z:= .int .u8 0) (d:= .int .u8 (if n<0 then 255 - d.getD (k - 1) 0 else d.getD (k - 1) 0)) (te:=iE) hl ho rfl rfl (by decide) (by rw [dO];omega)
      simp only [hn, ↓reduceIte] at e' o' he
      rw [e']
      simp (disch:=omega) only [jN,st,si,br]
      refine eZ (k - 1) _ _ (by omega) ⟨x',o++ [if n<0 then 255 - d.getD (k - 1) 0 else d.getD (k - 1) 0],by rw [show ((k - 1:Nat):Int) - 1=(k:Int) - 1 - 1 by omega],l',by simpa [hn] using o',hx'.kp k' hne,fun b hb gY=> ?_,by simpa [hn] using he,by omega⟩
      rcases b' b gY with h|h
      ·exact hne b hb h
      ·have:=(hx'.lo hb).2;omega
    ·rcases b1 b gY with h|h
     ·simp [aA] at h
     ·have:=hbx b hb;omega
   ·rw [iJ hk] at hd
    have nD:d.length+1≤8:=by
     have:=congrArg List.length hd
     simp at this;omega
    simp (disch:=omega) only [jN,st,si,eG,MD]
    obtain ⟨x',t',e',o',l',k',b'⟩:=mR (z:= .int .u8 0) (d:= .int .u8 ((k:Int) % 256)) (te:=iE) hl ho rfl rfl (by decide) (by rw [dO];omega)
    rw [e']
    simp (disch:=omega) only [jN,st,si,br]
    refine eZ (k / 256) _ _ (by omega) ⟨x',d++ [((k % 256:Nat):Int)],?_,l',?_,?_,by omega⟩
    ·rw [show ((k / 256:Nat):Int)=(k:Int) / 256 by omega]
    ·simpa using o'
    ·simpa using hd)) (by omega)
theorem Wn {v:V} {l:List Int} (hv:Is .i64 v l) (hr: ∀x,x∈l→fk x) (hlen:l.length≤1000000):xM cx 59 [v] 5 1 (eC l).length (Bs (eC l)):=fun s hs=>
 (E59 (aE (by decide))).runN (l.length+1) (by
  show fE s 5 1 _ _ (Tj cx _ v s)
  unfold Tj
  simp (disch:=omega) only [jN,st,si,hv.len]
  obtain ⟨x1,s1,e1,o1,l1,k1,b1⟩:=gO (dr:=false) (st:=true) (Loc.refl hs) (args:= [.int .i64 (l.length:Int)]) rfl (JJ l.length (by omega) (by omega)) (cY _)
  simp (disch:=omega) only [jN,st,si,e1]
  refine aP (fE s 5 1 _ _) (fun k vs t=> ∃(x:V) (o:List Int) (i:Nat),vs= [.int .i64 i,v,x]∧Loc s t∧Ow s t 5 1 x o.length (Bs o)∧i+k=l.length∧o++(l.drop i).flatMap dH=eC l∧o.length≤9*(i+1)) ?_ _ l.length _ _ ⟨x1,dH l.length,0,rfl,l1,o1,by omega,rfl,kv (by omega) (by omega)⟩ (by omega)
  rintro ih k _ t ⟨x,o,i,rfl,hl,ho,hk,he,hol⟩ eZ
  by_cases hi:i<l.length
  ·simp (disch:=omega) only [jN,st,si,hv.len,hv.ix,dW,Int.toNat_natCast]
   have hx:=hr (l.getD i 0) (dh l 0 hi)
   obtain ⟨y,t1,e2,o2,l2,k2,b2⟩:=gO (dr:=false) (st:=true) hl (args:= [.int .i64 (l.getD i 0)]) rfl (JJ _ hx.1 hx.2) (cY _)
   simp (disch:=omega) only [jN,st,si,e2]
   have h9:=kv hx.1 hx.2
   obtain ⟨z,t2,e3,o3,l3,k3,b3⟩:=vN (te:=iE) l2 (ho.kp k2 (fun _ _=>by simp)) o2 (dZ _ _) rfl (by decide) (by rw [dO];omega)
   simp (disch:=omega) only [jN,st,si,e3,br]
   rw [fR l 0 hi,List.flatMap_cons] at he
   refine eZ (k - 1) _ _ (by omega) ⟨z,o++dH (l.getD i 0),i+1,rfl,l3,by simpa using o3,by omega,by simpa using he,?_⟩
   rw [List.length_append];omega
  ·simp (disch:=omega) only [jN,st,si,hv.len]
   have:l.drop i= []:=List.drop_eq_nil_of_le (by omega)
   rw [this,List.flatMap_nil,List.append_nil] at he
   subst he
   exact eP hs hl ho (aS _ _)) (by omega)
theorem c98 (n:Int) (h1: -9223372036854775808≤n) (h2:n≤9223372036854775807):xM cx 98 [.int .i64 n] 5 1 (dH n).length (Bs (dH n)):=fun s hs=>
 (E98 (aE (by decide))).runN 20 (by
  show fE s 5 1 _ _ (VJ cx _ (.int .i64 n) s)
  have hm:mag n<2 ^ 63:=by unfold mag;split<;>omega
  have hlen:(dg (mag n)).length≤8:=lO 8 _ (by omega)
  have sN:(n<0∧18446744073709551615 - (n+18446744073709551616)=(mag n:Int))∨(¬n<0∧n=(mag n:Int)):=by unfold mag;split<;>omega
  have hE:dH n=(if n<0 then 127 - ((dg (mag n)).length:Int) else 128+(dg (mag n)).length)::((dg (mag n)).take (dg (mag n)).length).reverse.map fun x=>if n<0 then 255 - x else x:=by unfold dH;rw [List.take_length]
  have hG: ∀i,i<(dg (mag n)).length→(dg (mag n)).getD i 0=(((mag n) / 256 ^ i % 256:Nat):Int):=fun i h=>Db i _ h
  have hL: ∀k,mag n<256 ^ k→(dg (mag n)).length≤k:=fun k h=>lO k _ h
  have hT: ∀k,(dg (mag n)).length≤k→mag n<256 ^ k:=fun k h=>Iv k _ h
  generalize dg (mag n)=D at hlen hE hG hL hT
  generalize hM:mag n=M at*
  have pw: ∀j:Nat,(256:Int) ^ j=2 ^ (8*j):=fun j=>by rw [Int.pow_mul];rfl
  have TJ: ∀j:Nat,((M / 256 ^ j:Nat):Int)=(M:Int) / 2 ^ (8*j):=fun j=>by rw [←pw];simp
  unfold VJ
  rcases sN with ⟨hn,hx⟩|⟨hn,hx⟩<;>(
   simp (disch:=omega) only [jN,st,si,br,eG,aa6,H9,Jg]
   refine aP (fE s 5 1 _ _) (fun k vs t=>vs= [.int .i64 (k:Int),.int .u64 (M:Int),.int .u8 (if n<0 then 255 else 0)]∧s=t∧k≤8∧M<256 ^ k) ?_ _ 8 _ _ ⟨by simp only [hn, ↓reduceIte];rw [←hx];rfl,rfl,by omega,by omega⟩ (by omega)
   rintro ih k _ _ ⟨rfl,rfl,hk8,hMk⟩ eZ
   by_cases kX:0<k∧M / 256 ^ (k - 1)=0
   ·have vE:=kX.1
    simp (disch:=omega) only [jN,st,si,br,xu]
    have e8:(8*((k:Int) - 1)).toNat=8*(k - 1):=by omega
    rw [e8,←TJ,kX.2]
    simp (disch:=omega) only [jN,st,si,br]
    refine eZ (k - 1) _ _ (by omega) ⟨by rw [show ((k - 1:Nat):Int)=(k:Int) - 1 by omega],rfl,by omega,?_⟩
    exact (Nat.div_eq_zero_iff_lt (Nat.pow_pos (by omega))).1 kX.2
   ·have hk:k=D.length:=by
     have h1:=hL k hMk
     by_cases vE:k=0
     ·omega
     ·have: ¬D.length≤k - 1:=fun h=>by
       have h2:=hT _ h
       exact kX ⟨by omega,(Nat.div_eq_zero_iff_lt (Nat.pow_pos (by omega))).2 h2⟩
      omega
    have tt:k=0∨(0<k∧0<((M / 256 ^ (k - 1):Nat):Int)):=by
     by_cases vE:k=0
     ·exact .inl vE
     ·refine .inr ⟨by omega,?_⟩
      have:M / 256 ^ (k - 1)≠0:=fun h=>kX ⟨by omega,h⟩
      exact Int.natCast_pos.2 (Nat.pos_of_ne_zero this)
    have e8:(8*((k:Int) - 1)).toNat=8*(k - 1):=by omega
    rw [TJ] at tt
    rw [hE]
    simp only [hn, ↓reduceIte]
    rcases tt with vE|⟨vE,hp⟩<;>(
     simp (disch:=omega) only [jN,st,si,br,xu,eG,MD,sD,ME,e8]
     try simp (disch:=omega) only [jN,st,si,br,xu,eG,MD,sD,ME,e8]
     obtain ⟨out,t1,e1,o1,l1,k1,b1⟩:=qU (e:=5) (z:=1) (len:=1) (Loc.refl hs) (ri (z:= .int .u8 0) (d:= .int .u8 (if n<0 then 255 - (128+(k:Int)) else 128+(k:Int))) rfl) rfl
     simp only [hn, ↓reduceIte] at e1 o1
     rw [e1]
     simp (disch:=omega) only [jN,st,si,br]
     refine aP (fE s 5 1 _ _) (fun k vs t=> ∃(out:V) (o:List Int),vs= [.int .i64 ((k:Int) - 1),.int .u64 (M:Int),.int .u8 (if n<0 then 255 else 0),out]∧Loc s t∧Ow s t 5 1 out o.length (Bs o)∧
      o++(D.take k).reverse.map (fun x=>if n<0 then 255 - x else x)=dH n∧k≤D.length) ?_ _ k _ _
      ⟨out, [if n<0 then 127 - (D.length:Int) else 128+D.length],by simp only [hn, ↓reduceIte],l1,?_,by rw [hE,hk];rfl,by omega⟩ (by omega)
     ·rintro ih k _ t' ⟨out,o,rfl,hl,ho,he,hk⟩ eZ
      by_cases vE:k=0
      ·subst vE
       simp (disch:=omega) only [jN,st,si]
       rw [List.take_zero,List.reverse_nil,List.map_nil,List.append_nil] at he
       subst he
       rw [hE] at ho
       simp only [hn, ↓reduceIte] at ho
       exact eP hs hl ho (aS _ _)
      ·have hg:=hG (k - 1) (by omega)
       have hi:(8*((k:Int) - 1)).toNat=8*(k - 1):=by omega
       have hd:(M:Int) / 2 ^ (8*(k - 1)) % 256=D.getD (k - 1) 0:=by rw [hg,←TJ];omega
       have hr:0≤D.getD (k - 1) 0∧D.getD (k - 1) 0≤255:=by rw [hg];omega
       have hnn:0≤(M:Int) / 2 ^ (8*(k - 1)):=by rw [←TJ];exact Int.natCast_nonneg _
       rw [xD _ _ 0 (by omega) hk] at he
       have hol:o.length+1≤20:=by
        have:=congrArg List.length he
        rw [hE] at this
        simp at this;omega
       simp only [hn, ↓reduceIte] at he ⊢
       simp (disch:=omega) only [jN,st,si,br,xu,eG,hi,aa5,hd,sD,ME]
       obtain ⟨x',t'',e',o',l',k',b'⟩:=mR (z:= .int .u8 0) (d:= .int .u8 (if n<0 then 255 - D.getD (k - 1) 0 else D.getD (k - 1) 0)) (te:=iE) hl ho rfl rfl (by decide) (by rw [dO];omega)
       simp only [hn, ↓reduceIte] at e' o'
       rw [e']
       try simp (disch:=omega) only [jN,st,si,br]
       refine eZ (k - 1) _ _ (by omega) ⟨x',o++ [if n<0 then 255 - D.getD (k - 1) 0 else D.getD (k - 1) 0],by simp only [hn, ↓reduceIte];rw [show ((k - 1:Nat):Int) - 1=(k:Int) - 1 - 1 by omega],l',by simpa [hn] using o',by simpa [hn] using he,by omega⟩
     ·try simp only [hn, ↓reduceIte]
      rw [←hk]
      first
       |exact o1
       |(rw [show (127:Int) - k=255 - (128+k) by omega];exact o1)))) (by omega)
theorem O6 {v:V} {b:List Int} (hv:Is .u8 v b) (hb:bytes b) (hlen:b.length≤1000000):jK cx 155 [v] (T3 (gI b)):=fun s hs=>
 (U9 (aE (by decide))).run 20 (by
  show Jr cx _ v s=_
  unfold Jr gI T3
  by_cases h0:b.length=0
  ·simp (disch:=omega) only [jE,st,si,hv.len,h0, ↓reduceIte]
   rw [eu rfl (by omega) (by omega)]
  ·simp (disch:=omega) only [jE,st,si,hv.len,hv.ix,dW,h0, ↓reduceIte]
   have hr:=hb _ (dh b 0 (show 0<b.length by omega))
   have hf:(b.getD 0 0<128∧ ∃(k:Int) (f g:Int→Int),k=255 - b.getD 0 0 - 128∧f=(fun d=>255 - d)∧g=fun m=> -1 - m)∨(¬b.getD 0 0<128∧ ∃(k:Int) (f g:Int→Int),k=b.getD 0 0 - 128∧f=id∧g=id):=by
    by_cases h:b.getD 0 0<128
    ·exact .inl ⟨h,_,_,_,rfl,rfl,rfl⟩
    ·exact .inr ⟨h,_,_,_,rfl,rfl,rfl⟩
   rcases hf with ⟨hf,k,f,g,hk,ef,eg⟩|⟨hf,k,f,g,hk,ef,eg⟩<;>(
    have bX: ∀x,0≤x→x≤255→0≤f x∧f x≤255:=fun x h1 h2=>by subst ef;first|(simp only [];omega)|(simp only [id];omega)
    simp only [hf, ↓reduceIte]
    first|rw [show gK (fun d=>255 - d) (fun m=> -1 - m)=gK f g by rw [ef,eg]]|rw [show gK id id=gK f g by rw [ef,eg]]
    simp (disch:=omega) only [jE,st,si,hv.len,hv.ix,dW,sD,ME,eG,br]
    rw [←hk]
    unfold gK
    by_cases h8:8<k
    ·simp (disch:=omega) only [jE,st,si,h8, ↓reduceIte]
     rw [eu rfl (by omega) (by omega)]
    ·by_cases hl:(b.length:Int)≤k
     ·simp (disch:=omega) only [jE,st,si,h8,hl, ↓reduceIte,hv.len]
      rw [eu rfl (by omega) (by omega)]
     ·simp (disch:=omega) only [jE,st,si,h8,hl, ↓reduceIte,hv.len]
      have tt: ¬0<k∨(0<k∧f (b.getD 1 0)=0)∨(0<k∧f (b.getD 1 0)≠0):=by omega
      rcases tt with hz|⟨hz,Uv⟩|⟨hz,Uv⟩
      rotate_left
      ·have sF:=hb _ (dh b 0 (show 1<b.length by omega))
       rw [if_pos ⟨hz,Uv⟩]
       subst ef
       simp only [id] at Uv
       simp (disch:=omega) only [jE,st,si,hv.len,hv.ix,dW,sD,ME,Int.toNat_one]
       rw [eu rfl (by omega) (by omega)]
      all_goals
       rw [if_neg (by omega)]
       have hkn:k.toNat+1≤b.length:=by omega
       obtain ⟨w,hw,hi⟩:=hv.sl (q:= .i64) (q':= .i64) (lo:=1) (hi:=k+1) (by omega) (by omega) (by omega)
       rw [show (k+1).toNat=k.toNat+1 by omega,show (1:Int).toNat=1 from rfl] at hi
       have hL:((b.take (k.toNat+1)).drop 1).length=k.toNat:=by rw [List.length_drop,List.length_take];omega
       have Ho:=bP 1 (cP (k.toNat+1) hb)
       generalize (b.take (k.toNat+1)).drop 1=l at hi hL Ho
       first
        |(
         have sF:=hb _ (dh b 0 (show 1<b.length by omega))
         have Ci: ¬f (b.getD 1 0)=0:=Uv
         rw [ef] at Ci
         simp only [id] at Ci
         simp (disch:=omega) only [jE,st,si,hv.len,hv.ix,dW,sD,ME,Int.toNat_one,br,hw,hi.len])
        |simp (disch:=omega) only [jE,st,si,hv.len,br,hw,hi.len]
       refine aP (fun r=>r=_) (fun j vs t=> ∃i:Nat,vs= [.int .i64 i,.int .i64 (l.length:Int),w,.int .u8 (if b.getD 0 0<128 then 255 else 0),.int .u64 (vl ((l.take i).map f).reverse),.int .i64 k]∧s=t∧i+j=l.length) ?_ _ l.length _ _
        ⟨0,by simp only [hf, ↓reduceIte];rfl,rfl,by omega⟩ (by omega)
       rintro ih j _ _ ⟨i,rfl,rfl,hij⟩ eZ
       by_cases hj:i<l.length
       ·have h7:=MB (ja (iZ bX (cP i Ho))) (by rw [List.length_reverse,List.length_map,List.length_take];omega)
        have hm:=qN f l hj
        have QE:=Ho _ (dh l 0 hj)
        have hfi:=bX _ QE.1 QE.2
        simp only [hf, ↓reduceIte]
        simp (disch:=omega) only [jE,st,si,hi.ix,dW,Int.toNat_natCast,SF,H9,sD,ME,eG,Zj,br]
        refine eZ (j - 1) _ _ (by omega) ⟨i+1,?_,rfl,by omega⟩
        rw [hm]
        simp only [hf, ↓reduceIte,ef,id]
        rw [show ((i+1:Nat):Int)=(i:Int)+1 by omega,Int.add_comm _ (256*vl _),Int.mul_comm 256]
       ·have h8':=MC (ja (iZ bX Ho)) (by rw [List.length_reverse,List.length_map];omega)
        rw [List.take_of_length_le (by omega)]
        by_cases PU:9223372036854775807<vl (l.map f).reverse
        ·rw [if_pos PU]
         simp (disch:=omega) only [jE,st,si,Jb]
         rw [eu rfl (by omega) (by omega)]
        ·rw [if_neg PU]
         simp only [hf, ↓reduceIte]
         simp (disch:=omega) only [jE,st,si,Jb,Jg,eG,S5,br]
         rw [eu rfl (by omega) (by omega),eg]
         try rfl)) (by omega)
theorem Fs.cm {z:Nat} {v:V} {l:Nat} {cs:List V} (h:Fs z v l cs):cm v=true:=by cases h<;>rfl
theorem Pe {cf:CF} {dr:Bool} {f:Nat} {x:V} {rest:List V} {s₀ s:S} {e z l:Nat} {cs:List V} {v:V} (hl:Loc s₀ s) (hx:Ow s₀ s e z x l cs) (ha:cs.all atom=true) (hr:rest.all cm=true) (hc: ∀x',Fs z x' l cs→jK cf f (x'::rest) v):
  ∃s',au cf dr false (.fn f [] []) (x::rest) s=some (v,s')∧Loc s₀ s'∧Kp s s' (aA x)∧s'.n=s.n:=by
 have hx':Ow s₀ (aw s) e z x l cs:=by
  cases hx with
  |nil=>exact .nil
  |aF b l cs bL h hl=>exact .aF b l cs bL ⟨h.lo,h.hi,h.get⟩ hl
 obtain ⟨x',bs,h1,h2,rfl⟩:=hx'.fz ha
 obtain ⟨s',e1,l1,k1,n1,_⟩:=vT (dr:=dr) (st:=false) hl (bK.cons _ _ x x' _ rest rest [] (.one _ _ _ h1) (bK.ats _ hr)) (fun b hb=>by rw [List.append_nil] at hb;exact (hx.lo hb).1) (fun h=>by cases h) (hc x' h2)
 rw [List.append_nil] at k1
 exact ⟨s',e1,l1,k1,n1⟩
theorem Wm {v:V} {l:List Int} (hv:Is .i64 v l) (hr: ∀x,x∈l→fk x) (hlen:l.length≤1000000):xM cx 56 [v] 5 1 (eC l).length (Bs (eC l)):=fun s hs=>
 (E56 (aE (by decide))).runN (l.length+1) (by
  show fE s 5 1 _ _ (VD cx _ v s)
  unfold VD
  simp (disch:=omega) only [jN,st,si,hv.len]
  obtain ⟨x1,s1,e1,o1,l1,k1,b1⟩:=gO (dr:=false) (st:=true) (Loc.refl hs) (args:= [.int .i64 (l.length:Int)]) rfl (c98 l.length (by omega) (by omega)) (cY _)
  simp (disch:=omega) only [jN,st,si,e1,hv.len]
  refine aP (fE s 5 1 _ _) (fun k vs t=> ∃(x:V) (o:List Int) (i:Nat),vs= [.int .i64 i,.int .i64 (l.length:Int),v,x]∧Loc s t∧Ow s t 5 1 x o.length (Bs o)∧i+k=l.length∧o++(l.drop i).flatMap dH=eC l∧o.length≤9*(i+1)) ?_ _ l.length _ _ ⟨x1,dH l.length,0,rfl,l1,o1,by omega,rfl,kv (by omega) (by omega)⟩ (by omega)
  rintro ih k _ t ⟨x,o,i,rfl,hl,ho,hk,he,hol⟩ eZ
  by_cases hi:i<l.length
  ·simp (disch:=omega) only [jN,st,si,hv.len,hv.ix,dW,Int.toNat_natCast]
   have hx:=hr (l.getD i 0) (dh l 0 hi)
   obtain ⟨y,t1,e2,o2,l2,k2,b2⟩:=gO (dr:=false) (st:=true) hl (args:= [.int .i64 (l.getD i 0)]) rfl (c98 _ hx.1 hx.2) (cY _)
   simp (disch:=omega) only [jN,st,si,e2]
   have h9:=kv hx.1 hx.2
   obtain ⟨z,t2,e3,o3,l3,k3,b3⟩:=vN (te:=iE) l2 (ho.kp k2 (fun _ _=>by simp)) o2 (dZ _ _) rfl (by decide) (by rw [dO];omega)
   simp (disch:=omega) only [jN,st,si,e3,br]
   rw [fR l 0 hi,List.flatMap_cons] at he
   refine eZ (k - 1) _ _ (by omega) ⟨z,o++dH (l.getD i 0),i+1,rfl,l3,by simpa using o3,by omega,by simpa using he,?_⟩
   rw [List.length_append];omega
  ·simp (disch:=omega) only [jN,st,si,hv.len]
   have:l.drop i= []:=List.drop_eq_nil_of_le (by omega)
   rw [this,List.flatMap_nil,List.append_nil] at he
   subst he
   exact eP hs hl ho (aS _ _)) (by omega)
theorem AO (f:Int→Int) {l:List Int} (hf: ∀x,0≤x→x≤255→0≤f x∧f x≤255) (hl:bytes l) {i:Nat} : ∀d,i+1+d≤l.length→256*vl ((l.take i).map f).reverse≤vl ((l.take (i+1+d)).map f).reverse
 |0,h=>by
  have:=hf _ (hl _ (dh l 0 (show i<l.length by omega))).1 (hl _ (dh l 0 (show i<l.length by omega))).2
  rw [Nat.add_zero,qN f l (by omega)];omega
 |d+1,h=>by
  have:=hf _ (hl _ (dh l 0 (show i+1+d<l.length by omega))).1 (hl _ (dh l 0 (show i+1+d<l.length by omega))).2
  have ih:=AO f hf hl (i:=i) d (by omega)
  have hn:=xL (ja (iZ hf (cP i hl)))
  rw [show i+1+(d+1)=(i+1+d)+1 by omega,qN f l (by omega)];omega
theorem OI (b:List Int) {k j:Nat} (h:j<k) (hk:k+1≤b.length):((b.take (k+1)).drop 1).getD j 0=b.getD (j+1) 0:=by
 simp [List.getD_eq_getElem?_getD,List.getElem?_take,Nat.add_comm,h]
theorem OT {v:V} {b:List Int} (hv:Is .u8 v b) (hb:bytes b) (hlen:b.length≤1000000):jK cx 109 [v] (T3 (gI b)):=fun s hs=>
 (Nw (aE (by decide))).run 20 (by
  show Gc cx _ v s=_
  unfold Gc gI T3
  by_cases h0:b.length=0
  ·simp (disch:=omega) only [jE,st,si,hv.len,h0, ↓reduceIte]
   rw [eu rfl (by omega) (by omega)]
  ·have hr:=hb _ (dh b 0 (show 0<b.length by omega))
   simp (disch:=omega) only [jE,st,si,hv.len,hv.ix,dW,h0, ↓reduceIte,eG,br,Int.toNat_zero]
   by_cases h1:b.getD 0 0<119
   ·simp (disch:=omega) only [jE,st,si,h1, ↓reduceIte,show b.getD 0 0<128 by omega]
    unfold gK
    rw [if_pos (by omega),eu rfl (by omega) (by omega)]
   by_cases h2:136<b.getD 0 0
   ·simp (disch:=omega) only [jE,st,si, ↓reduceIte,show ¬b.getD 0 0<128 by omega]
    unfold gK
    rw [if_pos (by omega),eu rfl (by omega) (by omega)]
   simp (disch:=omega) only [jE,st,si,br]
   have hf:(b.getD 0 0<128∧ ∃(k:Int) (f g:Int→Int),k=255 - b.getD 0 0 - 128∧f=(fun d=>255 - d)∧g=fun m=> -1 - m)∨(¬b.getD 0 0<128∧ ∃(k:Int) (f g:Int→Int),k=b.getD 0 0 - 128∧f=id∧g=id):=by
    by_cases h:b.getD 0 0<128
    ·exact .inl ⟨h,_,_,_,rfl,rfl,rfl⟩
    ·exact .inr ⟨h,_,_,_,rfl,rfl,rfl⟩
   rcases hf with ⟨hf,k,f,g,hk,ef,eg⟩|⟨hf,k,f,g,hk,ef,eg⟩<;>(
    have bX: ∀x,0≤x→x≤255→0≤f x∧f x≤255:=fun x h1 h2=>by subst ef;first|(simp only [];omega)|(simp only [id];omega)
    have yz: ∀x,f (f x)=x:=fun x=>by subst ef;first|(simp only [];omega)|rfl
    simp only [hf, ↓reduceIte]
    first|rw [show gK (fun d=>255 - d) (fun m=> -1 - m)=gK f g by rw [ef,eg]]|rw [show gK id id=gK f g by rw [ef,eg]]
    simp (disch:=omega) only [jE,st,si,hv.len,br]
    first|rw [show 127 - b.getD 0 0=k by omega,show 255 - b.getD 0 0 - 128=k by omega]|rw [←hk]
    unfold gK
    rw [if_neg (by omega)]
    by_cases hl:(b.length:Int)≤k
    ·simp (disch:=omega) only [jE,st,si,hl, ↓reduceIte,hv.len]
     rw [eu rfl (by omega) (by omega)]
    rw [if_neg hl]
    have hkn:k.toNat+1≤b.length:=by omega
    have hL:((b.take (k.toNat+1)).drop 1).length=k.toNat:=by rw [List.length_drop,List.length_take];omega
    have Ho:=bP 1 (cP (k.toNat+1) hb)
    have Bm: ∀j:Nat,j<k.toNat→((b.take (k.toNat+1)).drop 1).getD j 0=b.getD (j+1) 0:=fun j h=>OI b h hkn
    have wJ:=zD (f:=f) hb hkn bX yz (h:=if b.getD 0 0<128 then fun n=>127 - (n:Int) else fun n=>128+(n:Int)) (by simp only [hf, ↓reduceIte];omega)
    generalize hLL:(b.take (k.toNat+1)).drop 1=l at hL Ho Bm wJ
    simp (disch:=omega) only [jE,st,si,hv.len,br]
    refine aP (fun r=>r=_) (fun j vs t=> ∃i:Nat,vs= [.int .i64 ((i:Int)+1),.int .i64 (b.getD 0 0),.int .i64 (vl ((l.take i).map f).reverse),v,.int .i64 k]∧s=t∧i+j=l.length∧vl ((l.take i).map f).reverse≤9223372036854775807) ?_ _ l.length _ _
     ⟨0,rfl,rfl,by omega,by show (0:Int)≤_;omega⟩ (by omega)
    rintro ih j _ _ ⟨i,rfl,rfl,hij,rA⟩ eZ
    have Ah:=xL (ja (iZ bX (cP i Ho)))
    by_cases hj:i<l.length
    ·have hm:=qN f l hj
     have QE:=Ho _ (dh l 0 hj)
     have hfi:=bX _ QE.1 QE.2
     have Bo:=Bm i (by omega)
     simp (disch:=omega) only [jE,st,si,hv.ix,dW,show ((i:Int)+1).toNat=i+1 by omega,←Bo,eG,br]
     by_cases hg:36028797018963967<vl ((l.take i).map f).reverse
     ·have hgr:=AO f bX Ho (i:=i) (l.length - (i+1)) (by omega)
      rw [show i+1+(l.length - (i+1))=l.length by omega,List.take_length] at hgr
      simp (disch:=omega) only [jE,st,si]
      rw [eu rfl (by omega) (by omega)]
      by_cases hz:0<k∧f (b.getD 1 0)=0
      ·rw [if_pos hz]
      ·rw [if_neg hz,if_pos (by omega)]
     ·have hd:f (l.getD i 0)=255 - l.getD i 0∨f (l.getD i 0)=l.getD i 0:=by subst ef;first|exact .inl rfl|exact .inr rfl
      simp (disch:=omega) only [jE,st,si,br]
      refine eZ (j - 1) _ _ (by omega) ⟨i+1,?_,rfl,by omega,by rw [hm];omega⟩
      rw [hm,ef]
      simp only [id]
      rw [Int.add_comm (256*_)]
      rfl
    ·rw [List.take_of_length_le (by omega)] at rA Ah ⊢
     simp (disch:=omega) only [jE,st,si,br]
     generalize hM:vl (l.map f).reverse=M at rA Ah wJ ⊢
     have hgM:g M=M∨g M= -1 - M:=by subst eg;first|exact .inl rfl|exact .inr rfl
     have eY:=JJ (g M) (by omega) (by omega)
     obtain ⟨x,t1,e1,o1,l1,k1,b1⟩:=gO (dr:=true) (st:=false) (Loc.refl hs) (args:= [.int .i64 (g M)]) rfl eY (cY _)
     obtain ⟨w,hw,hi⟩:=hv.SG (q':= .i64) (hi:=k+1) (by omega) (by omega)
     rw [show (k+1).toNat=k.toNat+1 by omega] at hi
     have h9:=kv (n:=g M) (by omega) (by omega)
     obtain ⟨t2,e2,l2,_,_⟩:=Pe (dr:=true) (rest:= [w]) l1 o1 (aS _ _) (by simp only [List.all_cons,List.all_nil,Bool.and_true];exact Fs.cm hi) (fun x' hx'=>Wg hx' hi (by omega))
     have hE:dH (g M)=(if b.getD 0 0<128 then fun n:Nat=>127 - (n:Int) else fun n=>128+(n:Int)) (dg M.toNat).length::(dg M.toNat).reverse.map f:=by
      simp only [hf, ↓reduceIte]
      subst ef
      rw [eg]
      unfold dH mag
      first
       |(simp only [show -1 - M<0 by omega, ↓reduceIte,show -1 - (-1 - M)=M by omega])
       |(simp only [id,show ¬M<0 by omega, ↓reduceIte];rfl)
     rw [←hE] at wJ
     have XJ:(.int .i64 (g M):V)= .int .i64 (if b.getD 0 0<128 then -1 - M else M):=by rw [eg];simp only [hf, ↓reduceIte,id]
     rw [XJ] at e1
     simp only [hf, ↓reduceIte] at e1
     simp (disch:=omega) only [jE,st,si,br,e1,hw,e2]
     by_cases hz:0<k∧f (b.getD 1 0)=0
     ·rw [if_pos hz]
      have hne: ¬dH (g M)=b.take (k.toNat+1):=fun h=>wJ.1 h ⟨by omega,hz.2⟩
      rw [SP]
      simp (disch:=exact hne) only [jE,st]
      rw [eu rfl (by omega) l2.fx]
     ·rw [if_neg hz,if_neg (by omega)]
      have heq:dH (g M)=b.take (k.toNat+1):=wJ.2 fun h=>hz ⟨by omega,h.2⟩
      rw [SP,heq]
      simp (disch:=omega) only [jE,st,si,br,not_true]
      rw [eu rfl (by omega) l2.fx,eg]
      try rfl)) (by omega)
theorem V2 {v:V} {b:List Int} (hv:Is .u8 v b) (hb:bytes b) (hlen:b.length≤1000000):jK cx 108 [v,.int .i64 1] (T3 (gC b)):=fun s hs=>
 (Nv (aE (by decide))).run 20 (by
  show Gb cx 20 v (.int .i64 1) s=_
  unfold Gb
  have e1:=bO (dr:=false) (st:=false) (OT hv hb hlen) (by simp only [List.all_cons,List.all_nil,Bool.and_true];exact hv.az) (s:=s) (by omega)
  simp (disch:=omega) only [jE,st,si,e1,T3]
  by_cases h:(gI b).2.2=0
  ·have hok:=kU hb h
   obtain ⟨hr,h1,h9,hl,_⟩:=hok
   have h2:=hr.1
   have h3:=hr.2
   simp (disch:=omega) only [jE,st,si,hv.len,ne_eq,h,not_true]
   unfold gC
   by_cases hn:(gI b).1<0
   ·rw [if_neg (by omega),if_pos hn]
    simp (disch:=omega) only [jE,st,si,hv.len]
    rw [eu rfl (by omega) (by omega)]
   ·by_cases hm:(b.length:Int) - (gI b).2.1<(gI b).1
    ·rw [if_neg (by omega),if_neg hn,if_pos hm]
     by_cases sN:(b.length:Int)<(gI b).1
     ·simp (disch:=omega) only [jE,st,si,hv.len]
      rw [eu rfl (by omega) (by omega)]
     ·simp (disch:=omega) only [jE,st,si,hv.len,br,Int.mul_one]
      rw [eu rfl (by omega) (by omega)]
    ·rw [if_neg (by omega),if_neg hn,if_neg hm]
     simp (disch:=omega) only [jE,st,si,hv.len,br,Int.mul_one]
     rw [eu rfl (by omega) (by omega),h]
  ·have hc:gC b=(0,0,(gI b).2.2):=by unfold gC;rw [if_pos h]
   simp (disch:=exact h) only [jE,st,si,hv.len]
   rw [eu rfl (by omega) (by omega),hc]) (by omega)
def gD (b:List Int):Int×Int×Int:=if (gI b).2.2≠0 then gI b else if (gI b).1<0 then ((gI b).1,(gI b).2.1,2) else if (b.length:Int) - (gI b).2.1<(gI b).1 then ((gI b).1,(gI b).2.1,3) else gI b
theorem J9 (b:List Int):(gD b).2.2=(gC b).2.2:=by
 unfold gD gC
 (repeat' split)<;>rfl
theorem Pu {b:List Int} (h:(gC b).2.2=0):gD b=gC b:=by
 unfold gD
 unfold gC at h ⊢
 split
 ·rename_i h1;rw [if_pos h1] at h;exact absurd h h1
 ·rename_i h1
  rw [if_neg h1] at h
  split
  ·rename_i h2;rw [if_pos h2] at h;cases h
  ·rename_i h2
   rw [if_neg h2] at h
   split
   ·rename_i h3;rw [if_pos h3] at h;cases h
   ·rfl
theorem VY {v:V} {b:List Int} (hv:Is .u8 v b) (hb:bytes b) (hlen:b.length≤1000000):jK cx 103 [v,.int .i64 1] (T3 (gD b)):=fun s hs=>
 (UP (aE (by decide))).run 20 (by
  show Jn cx 20 v (.int .i64 1) s=_
  unfold Jn
  have e1:=bO (dr:=false) (st:=false) (O6 hv hb hlen) (by simp only [List.all_cons,List.all_nil,Bool.and_true];exact hv.az) (s:=s) (by omega)
  simp (disch:=omega) only [jE,st,si,e1,T3]
  by_cases h:(gI b).2.2=0
  ·have hok:=kU hb h
   obtain ⟨hr,h1,h9,hl,_⟩:=hok
   have h2:=hr.1
   have h3:=hr.2
   simp (disch:=omega) only [jE,st,si,hv.len,ne_eq,h,not_true]
   unfold gD
   by_cases hn:(gI b).1<0
   ·rw [if_neg (by omega),if_pos hn]
    simp (disch:=omega) only [jE,st,si,hv.len]
    rw [eu rfl (by omega) (by omega)]
   ·by_cases hm:(b.length:Int) - (gI b).2.1<(gI b).1
    ·rw [if_neg (by omega),if_neg hn,if_pos hm]
     simp (disch:=omega) only [jE,st,si,hv.len,br,Int.ediv_one]
     rw [eu rfl (by omega) (by omega)]
    ·rw [if_neg (by omega),if_neg hn,if_neg hm]
     simp (disch:=omega) only [jE,st,si,hv.len,br,Int.ediv_one]
     rw [eu rfl (by omega) (by omega),h]
  ·have hc:gD b=gI b:=by unfold gD;rw [if_pos h]
   simp (disch:=exact h) only [jE,st,si,hv.len]
   rw [eu rfl (by omega) (by omega),hc]) (by omega)
def L3 (r:List Int×Int×Int) (v:V):Prop:= ∃w,v= .dQ [w,.int .i64 r.2.1,.int .i64 r.2.2]∧Is .i64 w r.1
theorem Dr {s s':S} {x:V} {o:List Int} {e:Nat} {i er:Int} (h1:s.wm=s.n) (hl:Loc s s') (hx:Ow s s' e 1 x o.length (dk o)):bW s (L3 (o,i,er)) (aC s s' [some x,some (.int .i64 i),some (.int .i64 er)]):=by
 obtain ⟨x',bs,h2,h3,rfl⟩:=hx.fz (aS _ _)
 refine ⟨_,⟨x',rfl,h3⟩,?_⟩
 have:=th (l:= [x,.int .i64 i,.int .i64 er]) (l':= [x',.int .i64 i,.int .i64 er]) (bs:=aA x++([]++([]++ []))) (.cons _ _ _ _ _ _ (.one _ _ _ h2) (.cons _ _ _ _ _ _ (.one _ _ _ (.at _ rfl)) (.cons _ _ _ _ _ _ (.one _ _ _ (.at _ rfl)) .nil))) (by simp) h1 hl (fun b hb=>by
  simp only [List.append_nil] at hb;exact (hx.lo hb).1)
 exact this
theorem uo {s s':S} {i er:Int} (h1:s.wm=s.n) (hl:s.n≤s'.wm):bW s (L3 ([],i,er)) (aC s s' [some .ah,some (.int .i64 i),some (.int .i64 er)]):=
 ⟨_,⟨.ah,rfl,Is.nil _⟩,eu rfl (by omega) hl⟩
theorem Wp {v:V} {b:List Int} (hv:Is .u8 v b) (hb:bytes b) (hlen:b.length≤1000000):eL cx 64 [v] (L3 (gL b)):=fun s hs=>
 (E64 (aE (by decide))).fD (b.length+1) (by
  show bW s _ (Tl cx _ v s)
  unfold Tl
  have e1:=bO (dr:=false) (st:=false) (V2 hv hb hlen) (by simp only [List.all_cons,List.all_nil,Bool.and_true,hv.az];rfl) (s:=s) (by omega)
  simp (disch:=omega) only [jU,st,si,e1,T3]
  by_cases h:(gC b).2.2=0
  ·obtain ⟨hc,h0,hn,hm⟩:=zU hb h
   obtain ⟨hr,h1,h9,hl,_⟩:=kU hb h0
   simp (disch:=omega) only [jU,st,si]
   have hT:gL b=gF [] (gC b).2.1 (gR (gC b).1.toNat (b.drop (gC b).2.1.toNat)):=by unfold gL;rw [if_neg (by omega)]
   rw [hT]
   rw [hc]
   refine aP (bW s _) (fun j vs t=> ∃(i:Int) (x:V) (o:List Int) (q:Int),vs= [.int .i64 i,.int .i64 (gI b).1,v,x,.int .i64 q]∧Loc s t∧Ow s t 3 1 x o.length (dk o)∧0≤i∧i+j=(gI b).1∧o.length=i∧0≤q∧q≤b.length∧
    gF [] (gI b).2.1 (gR (gI b).1.toNat (b.drop (gI b).2.1.toNat))=gF o q (gR j (b.drop q.toNat))) ?_ _ (gI b).1.toNat _ _
    ⟨0,.ah, [],(gI b).2.1,rfl,Loc.refl hs,.nil,by omega,by omega,rfl,by omega,by omega,rfl⟩ (by omega)
   rintro ih j _ t ⟨i,x,o,q,rfl,fg,ho,hi0,hij,hol,HD,hq,DF⟩ eZ
   by_cases hi:i<(gI b).1
   ·obtain ⟨j,rfl⟩: ∃j',j=j'+1:=⟨j - 1,by omega⟩
    obtain ⟨w,hw,hd⟩:=hv.BQ (q:= .i64) (lo:=q) (by omega) (by omega)
    have pq:=bP q.toNat hb
    have nD:(b.drop q.toNat).length≤1000000:=by rw [List.length_drop];omega
    have e2:=bO (dr:=false) (st:=false) (OT hd pq nD) (by simp only [List.all_cons,List.all_nil,Bool.and_true];exact hd.az) (s:=t) fg.wm
    simp (disch:=omega) only [jU,st,si,hw,e2,T3]
    by_cases he:(gI (b.drop q.toNat)).2.2=0
    ·obtain ⟨Al,uz,h9',uF,_⟩:=kU pq he
     rw [List.length_drop] at uF
     simp (disch:=omega) only [jU,st,si]
     obtain ⟨y,t1,e3,o3,l3,k3,b3⟩:=mR (z:= .int .i64 0) (d:= .int .i64 (gI (b.drop q.toNat)).1) (te:=iV) fg ho rfl rfl (by decide) (by rw [show iV.bytes=8 from rfl];omega)
     rw [e3]
     have lY:(gI b).1≤9223372036854775807:=hr.2
     simp (disch:=omega) only [jU,st,si,br]
     rw [zV _ _ _ _ he] at DF
     refine eZ j _ _ (by omega) ⟨i+1,y,o++ [(gI (b.drop q.toNat)).1],q+(gI (b.drop q.toNat)).2.1,rfl,l3,by simpa using o3,by omega,by omega,by rw [List.length_append];simp;omega,by omega,by omega,?_⟩
     rw [List.drop_drop,show q.toNat+(gI (b.drop q.toNat)).2.1.toNat=(q+(gI (b.drop q.toNat)).2.1).toNat by omega] at DF
     exact DF
    ·simp (disch:=exact he) only [jU,st,si]
     rw [DF,Dy _ _ _ _ he]
     exact uo hs fg.fx
   ·have hj:j=0:=by omega
    subst hj
    simp (disch:=omega) only [jU,st,si]
    have:gF o q (gR 0 (b.drop q.toNat))=(o,q,0):=by unfold gF gR;simp
    rw [DF,this]
    exact Dr hs fg ho
  ·have hT:gL b=([],0,(gC b).2.2):=by unfold gL;rw [if_pos h]
   simp (disch:=exact h) only [jU,st,si]
   rw [hT]
   exact uo hs (by omega)) (by omega)
structure JA (s₀ t:S) (b c:Nat) (v:V) (q:Int):Prop where
 lob:s₀.n≤b
 loc:s₀.n≤c
 KR:b<t.n
 KS:c<t.n
 ne:b≠c
 Kc:t.h.get b=some (.cells [v] 70 false true)
 Ke:t.h.get c=some (.cells [.int .i64 q] 3 false true)
theorem JA.kp {s₀ t t':S} {b c:Nat} {v:V} {q:Int} {X:List Nat} (h:JA s₀ t b c v q) (hk:Kp t t' X) (hb:b∉X) (hc:c∉X):JA s₀ t' b c v q:=
 ⟨h.lob,h.loc,Nat.lt_of_lt_of_le h.KR hk.1,Nat.lt_of_lt_of_le h.KS hk.1,h.ne,by rw [hk.2 b h.KR hb];exact h.Kc,by rw [hk.2 c h.KS hc];exact h.Ke⟩
theorem VZ {v:V} {b:List Int} (hv:Is .u8 v b) (q:Int) {s₀ s:S} (hl:Loc s₀ s): ∃s',au cx false false (.fn 104 [] []) [v,.int .i64 q] s=some (.fn 156 [] [.ptr s.n 0,.ptr (s.n+1) 0],s')∧Loc s₀ s'∧JA s₀ s' s.n (s.n+1) v q∧Kp s s' []:=by
 have h0:=hl.n
 have h1:=hl.fx
 have h2:=hl.wm
 have qk:dB v=false:=oU hv.az
 have Un:bc v= [v]:=by
  have:=hv.atom
  cases v<;>first|rfl|(cases this;done)
 have Xo: ∀t,bM 70 v t=aT [v] 70 t:=fun t=>by
  rw [←Un]
  cases v<;>first|rfl|(cases qk;done)
 have hrun: ∀t:S,t.wm=t.n→cx 104 [v,.int .i64 q] t=some (.fn 156 [] [.ptr t.n 0,.ptr (t.n+1) 0], { (newObj (newObj t (.cells [v] 70 false true)) (.cells [.int .i64 q] 3 false true)) with wm:=t.wm }):=fun t ht=>
  (UQ (aE (by decide))).run 0 (by
   obtain ⟨h,n,w⟩:=t
   simp only [] at ht
   subst ht
   show Jo cx 0 v (.int .i64 q) ⟨h,w,w⟩=_
   unfold Jo
   rw [Xo]
   simp only [aT,aq,aw,newObj,bS,bM,bc,Nat.min_def,show w≤w+1+1 by omega,show w≤w+1 by omega,Nat.le_refl, ↓reduceIte]
   have hf:vB 156 [] [.ptr w 0,.ptr (w+1) 0]=some (.fn 156 [] [.ptr w 0,.ptr (w+1) 0]):=rfl
   rw [hf,bV]
   unfold aC
   rw [iH rfl]
   simp only [nX,fi]
   unfold packed
   have hc:(Nat.ble w w && Nat.ble w w)=true:=by simp
   simp only [hc]
   rfl) (by omega)
 unfold au
 rw [show ([v,.int .i64 q]:List V).any dB=false by simp only [List.any_cons,List.any_nil,qk];rfl]
 simp only [List.nil_append,List.append_nil]
 rw [ib _ (by simp only [List.all_cons,List.all_nil,Bool.and_true,hv.az];rfl)]
 simp only []
 rw [hrun _ rfl]
 refine ⟨_,rfl,⟨?_,?_,?_⟩,⟨h0,by omega,?_,?_,by omega,?_,?_⟩,⟨?_,fun c hc _=> ?_⟩⟩
 ·simp only [newObj];omega
 ·simp only [newObj,least];omega
 ·simp only [newObj,least];omega
 ·simp only [newObj];omega
 ·simp only [newObj];omega
 ·simp only [newObj];rw [Tr.aK _ _ (by omega),Tr.aQ]
 ·simp only [newObj];rw [Tr.aQ]
 ·simp only [newObj];omega
 ·simp only [newObj];rw [Tr.aK _ _ (by omega),Tr.aK _ _ (by omega)]
theorem V6 {v:V} {b:List Int} (hv:Is .u8 v b) (hb:bytes b) (hlen:b.length≤1000000) {q:Int} (hq:0≤q) (rB:q≤b.length) {s₀ s:S} {x y:Nat} (hl:Loc s₀ s) (hr:JA s₀ s x y v q):
  ∃s',au cx false false (.fn 156 [] [.ptr x 0,.ptr y 0]) [] s=some (.dQ [.int .i64 (gI (b.drop q.toNat)).1,.int .i64 (q+(gI (b.drop q.toNat)).2.1),.int .i64 (gI (b.drop q.toNat)).2.2],s')∧Loc s₀ s'∧JA s₀ s' x y v (q+(gI (b.drop q.toNat)).2.1)∧Kp s s' [y]:=by
 have h0:=hl.n
 have h1:=hl.fx
 have h2:=hl.wm
 obtain ⟨w,hw,hd⟩:=hv.BQ (q:= .i64) (lo:=q) (by omega) (by omega)
 have pq:=bP q.toNat hb
 have nD:(b.drop q.toNat).length≤1000000:=by rw [List.length_drop];omega
 have hg: -1000000≤(gI (b.drop q.toNat)).2.1∧(gI (b.drop q.toNat)).2.1≤9:=by
  by_cases h:(gI (b.drop q.toNat)).2.2=0
  ·have:=kU pq h;omega
  ·rcases Ka pq h with h|h<;>rw [h]<;>decide
 have hrun: ∀t:S,t.wm=t.n→t.n=s.n→t.h=s.h→cx 156 [.ptr x 0,.ptr y 0] t=some (.dQ [.int .i64 (gI (b.drop q.toNat)).1,.int .i64 (q+(gI (b.drop q.toNat)).2.1),.int .i64 (gI (b.drop q.toNat)).2.2], { t with h:=t.h.set y (.cells [.int .i64 (q+(gI (b.drop q.toNat)).2.1)] 3 false true),wm:=y }):=fun t ht hn hh=>
  (Va (aE (by decide))).run 0 (by
   obtain ⟨h,n,w'⟩:=t
   simp only [] at ht hn hh
   subst ht hh hn
   show Js cx 0 (.ptr x 0) (.ptr y 0) ⟨s.h,s.n,s.n⟩=_
   unfold Js
   have rx:Rd ⟨s.h,s.n,s.n⟩ x [v]:=⟨_,_,_,hr.Kc⟩
   have ry:Rd ⟨s.h,s.n,s.n⟩ y [.int .i64 q]:=⟨_,_,_,hr.Ke⟩
   have ex:aM ⟨s.h,s.n,s.n⟩ (.ptr x 0)=some v:=fI rx (by simp)
   have ey:aM ⟨s.h,s.n,s.n⟩ (.ptr y 0)=some (.int .i64 q):=fI ry (by simp)
   have e2:=bO (dr:=false) (st:=false) (O6 hd pq nD) (by simp only [List.all_cons,List.all_nil,Bool.and_true];exact hd.az) (s:=⟨s.h,s.n,s.n⟩) (Nat.le_refl _)
   simp (disch:=omega) only [st,si,ex,ey,hw,e2,T3,br]
   have KS:=hr.KS
   have HL:aq ⟨s.h,s.n,s.n⟩ (aB 1 (.ptr y 0) (.int .i64 (q+(gI (b.drop q.toNat)).2.1)) (aw ⟨s.h,s.n,s.n⟩))=some (.bad,⟨s.h.set y (.cells [.int .i64 (q+(gI (b.drop q.toNat)).2.1)] 3 false true),s.n,y⟩):=by
    rw [AH rfl,kh (s:=aw ⟨s.h,s.n,s.n⟩) hr.Ke (by simp) (by simp [aR])]
    simp only [aq,aw,bY]
    rw [show min s.n y=y by omega,show min s.n y=y by omega]
    rfl
   rw [HL,bS]
   have ez:aM ⟨s.h.set y (.cells [.int .i64 (q+(gI (b.drop q.toNat)).2.1)] 3 false true),s.n,y⟩ (.ptr y 0)=some (.int .i64 (q+(gI (b.drop q.toNat)).2.1)):=fI (cs:= [.int .i64 (q+(gI (b.drop q.toNat)).2.1)]) ⟨_,_,_,Tr.aQ _ _ _⟩ (by simp)
   rw [ez,bV]
   unfold aC
   rw [iH rfl,iH rfl,iH rfl]
   simp only [nX,fi]
   unfold packed
   have hc:(Nat.ble s.n s.n && Nat.ble s.n y)=false:=by
    have:Nat.ble s.n y=false:=by
     cases hx:Nat.ble s.n y with
     |false=>rfl
     |true=>rw [Nat.ble_eq] at hx;omega
    rw [this];simp
   simp only [hc]) (by omega)
 unfold au
 simp only [List.any_nil,List.nil_append,dA,kB]
 rw [hrun ⟨s.h,s.n,s.n⟩ rfl rfl rfl]
 have hlo:=hr.loc
 have nF:=hr.KS
 have hne:=hr.ne
 refine ⟨_,rfl,⟨?_,?_,?_⟩,⟨hr.lob,hr.loc,hr.KR,hr.KS,hr.ne,?_,?_⟩,⟨?_,fun c hc hx=> ?_⟩⟩
 ·simp only [];omega
 ·simp only [least];omega
 ·simp only [least];omega
 ·simp only [];rw [Tr.aK _ _ hne];exact hr.Kc
 ·simp only [];rw [Tr.aQ]
 ·simp only [];omega
 ·simp only [];rw [Tr.aK _ _ (by simpa using hx)]
theorem Wo {v:V} {b:List Int} (hv:Is .u8 v b) (hb:bytes b) (hlen:b.length≤1000000):eL cx 61 [v] (L3 (gL b)):=fun s hs=>
 (E61 (aE (by decide))).fD (b.length+1) (by
  show bW s _ (VG cx _ v s)
  unfold VG
  have e1:=bO (dr:=false) (st:=false) (VY hv hb hlen) (by simp only [List.all_cons,List.all_nil,Bool.and_true,hv.az];rfl) (s:=s) (by omega)
  simp (disch:=omega) only [jU,st,si,e1,T3]
  have hE:=J9 b
  by_cases h:(gC b).2.2=0
  ·rw [Pu h]
   obtain ⟨hc,h0,hn,hm⟩:=zU hb h
   obtain ⟨hr,h1,h9,hl,_⟩:=kU hb h0
   obtain ⟨s1,e2,l1,r1,k1⟩:=VZ hv (gC b).2.1 (Loc.refl hs)
   simp (disch:=omega) only [jU,st,si,e2]
   have hT:gL b=gF [] (gC b).2.1 (gR (gC b).1.toNat (b.drop (gC b).2.1.toNat)):=by unfold gL;rw [if_neg (by omega)]
   rw [hT]
   rw [hc] at r1 ⊢
   refine aP (bW s _) (fun j vs t=> ∃(i:Int) (x:V) (o:List Int) (q:Int),vs= [.int .i64 i,.int .i64 (gI b).1,.fn 156 [] [.ptr s.n 0,.ptr (s.n+1) 0],x,.int .i64 q]∧Loc s t∧Ow s t 3 1 x o.length (dk o)∧JA s t s.n (s.n+1) v q∧(∀c,c∈aA x→c≠s.n∧c≠s.n+1)∧
    0≤i∧i+j=(gI b).1∧o.length=i∧0≤q∧q≤b.length∧gF [] (gI b).2.1 (gR (gI b).1.toNat (b.drop (gI b).2.1.toNat))=gF o q (gR j (b.drop q.toNat))) ?_ _ (gI b).1.toNat _ _
    ⟨0,.ah, [],(gI b).2.1,rfl,l1,.nil,r1,(fun c hc=>by cases hc),by omega,by omega,rfl,by omega,by omega,rfl⟩ (by omega)
   rintro ih j _ t ⟨i,x,o,q,rfl,fg,ho,hrd,hx,hi0,hij,hol,HD,hq,DF⟩ eZ
   by_cases hi:i<(gI b).1
   ·obtain ⟨j,rfl⟩: ∃j',j=j'+1:=⟨j - 1,by omega⟩
    have pq:=bP q.toNat hb
    obtain ⟨t1,e3,l2,r2,k2⟩:=V6 hv hb hlen HD hq fg hrd
    simp (disch:=omega) only [jU,st,si,e3]
    by_cases he:(gI (b.drop q.toNat)).2.2=0
    ·obtain ⟨Al,uz,h9',uF,_⟩:=kU pq he
     rw [List.length_drop] at uF
     simp (disch:=omega) only [jU,st,si]
     obtain ⟨y,t2,e4,o4,l4,k4,b4⟩:=mR (z:= .int .i64 0) (d:= .int .i64 (gI (b.drop q.toNat)).1) (te:=iV) l2 (ho.kp k2 (fun c hc=>by have:=hx c hc;simp;omega)) rfl rfl (by decide) (by rw [show iV.bytes=8 from rfl];omega)
     rw [e4]
     have lY:(gI b).1≤9223372036854775807:=hr.2
     have acf:=r2.KR
     have acg:=r2.KS
     simp (disch:=omega) only [jU,st,si,br]
     rw [zV _ _ _ _ he] at DF
     refine eZ j _ _ (by omega) ⟨i+1,y,o++ [(gI (b.drop q.toNat)).1],q+(gI (b.drop q.toNat)).2.1,rfl,l4,by simpa using o4,r2.kp k4 (fun hc=>(hx _ hc).1 rfl) (fun hc=>(hx _ hc).2 rfl),fun c hc=>(b4 c hc).elim (hx c) (fun h=>by omega),by omega,by omega,by rw [List.length_append];simp;omega,by omega,by omega,?_⟩
     rw [List.drop_drop,show q.toNat+(gI (b.drop q.toNat)).2.1.toNat=(q+(gI (b.drop q.toNat)).2.1).toNat by omega] at DF
     exact DF
    ·simp (disch:=exact he) only [jU,st,si]
     rw [DF,Dy _ _ _ _ he]
     exact uo hs l2.fx
   ·have hj:j=0:=by omega
    subst hj
    simp (disch:=omega) only [jU,st,si]
    have:gF o q (gR 0 (b.drop q.toNat))=(o,q,0):=by unfold gF gR;simp
    rw [DF,this]
    exact Dr hs fg ho
  ·have hT:gL b=([],0,(gC b).2.2):=by unfold gL;rw [if_pos h]
   rw [hE]
   simp (disch:=exact h) only [jU,st,si]
   rw [hT]
   exact uo hs (by omega)) (by omega)
end Go.Vm.X
end
