/-
  A part of the proof of PromiseBytes: lemmas, in short letters, printed by a program out of the longer texts; conditions: those that each lemma names.
-/
import Derived.Test.YtalmddmghdinkaaGreatDoorD
set_option linter.all false
set_option linter.deprecated false
noncomputable section
namespace Go.Vm
open Go
variable {ng:Nat} {T:Types} {B:Nat} {ι ι₁ ι' ua:bN} {s s₁ s' tR:St} {w w₁ w' w'':World} {P:Program} {rec:Rec} {O:aL} {G:Tr Func}
theorem ni {nt:Nat} : ∀ {ts:List Nat} {vs vs':List Value} {e e':Tr Value} {tmps:Array Value},dN ts vs nt e=some e'→gd ι e nt tmps→bg ι vs vs'→
  ts.length=vs'.length∧gd ι e' nt ((ts.zip vs').foldl (fun tmps x=>tmps.setIfInBounds x.1 x.2) tmps)
 | [], [],vs',e,e',tmps,h,he,hv=>by
  cases hv
  simp [dN] at h;subst h
  exact ⟨rfl,he⟩
 |t::ts,v::vs,vs',e,e',tmps,h,he,hv=>by
  cases hv with
  |cons _ v' _ vs' hv hvs=>
   simp only [dN] at h
   split at h
   ·rename_i hlt
    rw [Nat.blt_eq] at hlt
    obtain ⟨h1,h2⟩:=ni h (he.set hlt hv) hvs
    exact ⟨by simp [h1],by simpa using h2⟩
   ·cases h
 | [],_::_,_,_,_,_,h,_,_=>by simp [dN] at h
 |_::_, [],_,_,_,_,h,_,_=>by simp [dN] at h
theorem bH.cM (h:gW ng T ι (Full ι) B s w) {l:Nat} {r r':pQ} {i:lC} (hl:s.h.get l=some (.loop r)) (hi:ι l=some i) {L':Loop}
  (hr:nV ng ι B r' i (w.putObj i.r (.loop L'))):bH ng T B ι (Full ι) s w ι (Vm.cM s l r') (w.putObj i.r (.loop L')):=
 bH.write h ⟨i,hi⟩ hl hi rfl (.inl rfl) (kJ _ _ _) (fun _ hr=>World.putObj_heap_other hr) hr
theorem nV.Z0 {r:pQ} {i:lC} {L:Loop} (h:nV ng ι B r i w) (hL:w.heap[i.r]? =some (.loop L)) (st:LoopState) (pd:Option Code) (hp:pd=none∨pd=some .ret∨ ∃id,pd=some (.exit id)):
  nV ng ι B { r with state:=st,pending:=pd } i (w.putObj i.r (.loop { L with state:=st,pending:=pd })):=by
 obtain ⟨L₀,h1,h2,h3,h4,h5,h6,h7,j,h8,h9⟩:=h.there
 rw [hL] at h1
 cases h1
 have hlt:i.r<w.heap.size:=(Array.getElem?_eq_some_iff.1 hL).1
 exact ⟨⟨_,World.putObj_heap_same hlt,rfl,rfl,h4,h5,h6,h7,j,h8,h9⟩,h.ok,hp,h.mine⟩
theorem yW (dj:iY ng T B P rec): ∀l args s v s',cu rec l args s=some (.val v s')→ ∀(ι:bN) w (args':Array Value) i,gW ng T ι (Full ι) B s w→iP ng ι→
  ι l=some i→bg ι args args'.toList→ ∃f tmps aS9 bd,(Instr.yield i.r args').run P w= .ok (.round i.r f tmps aS9 bd) w∧RoundIn Fence.wide 0 P i.r f tmps aS9 bd w (fp ng T B ι s w v s'):=by
 intro l args s v s' h ι w args' i fC hg hi ha
 unfold cu at h
 split at h
 ·rename_i r hl
  split at h
  ·cases h
  ·rename_i e he
   split at h
   ·rename_i fr bX
    have ho:=fC.obj l _ i ⟨i,hi⟩ hl hi
    obtain ⟨L,h1,h2,h3,h4,h5,h6,h7,j,h8,h9⟩:=ho.there
    obtain ⟨k1,k2⟩:=ni he h4 ha
    rw [←h5] at k1 k2
    have hs:args'.size=L.params.size:=by simp at k1;exact k1.symm
    refine ⟨_,_,_,_,run_yield h1 hs,roundIn_of_wpIn trivial ?_⟩
    have DU:(L.params.zip args').foldl (fun tmps x=>tmps.setIfInBounds x.1 x.2) L.tmps=(L.params.toList.zip args'.toList).foldl (fun tmps x=>tmps.setIfInBounds x.1 x.2) L.tmps:=by
     rw [←Array.foldl_toList,Array.toList_zip]
    rw [h6]
    have XH:fa ng T B ι { e:=e,nt:=r.nt,s:=s,ms:= [] } { tmps:=(L.params.zip args').foldl (fun tmps x=>tmps.setIfInBounds x.1 x.2) L.tmps,defers:= [] } w:=
     ⟨fC,hg,by rw [DU];exact k2,trivial⟩
    have hc:=dj _ _ _ _ _ bX ho.ok.1 ι _ w (some i.r) XH ⟨i,hi,rfl⟩
    refine wpIn_mono hc fun e₁ a₁ w₁ hp=> ?_
    obtain ⟨rfl,ι₁,DW,Cd⟩:=hp
    simp only [pf,Exit.then]
    unfold fL at h
    split at h
    ·rename_i r₂ hl₂
     split at h
     ·rename_i hst
      split at h
      ·rename_i x ic hbody
       have Cf:=DW.le _ _ hi
       have IS:=Cd.lz.obj l _ i ⟨i,Cf⟩ hl₂ Cf
       obtain ⟨L₂,q1,q2,q3,q4⟩:=IS.there
       have Ld:L₂.state= .ready:=by rw [q2,hst]
       refine ⟨_,run_beginRound q1 Ld,?_⟩
       have hup:=IS.Z0 q1 .busy r₂.pending IS.jump
       have jD:=bH.cM Cd.lz hl₂ Cf hup
       have e1:({ L₂ with state:= .busy,pending:=r₂.pending } :Loop)= { L₂ with state:= .busy } :=by rw [←q3]
       rw [e1] at jD
       have sL:fa ng T B ι₁ { fr with s:=Vm.cM fr.s l { r₂ with state:= .busy } } a₁ (w₁.putObj i.r (.loop { L₂ with state:= .busy })):=
        ⟨jD.full,Cd.qg,Cd.env,Cd.marks⟩
       rw [h7]
       have qG:=dj _ _ _ _ _ hbody ho.ok.2 ι₁ a₁ _ (some i.r) sL ⟨i,Cf,rfl⟩
       refine wpIn_mono qG fun e₂ a₂ w₂ hp=> ?_
       obtain ⟨rfl,ι₂,hg₂,T6⟩:=hp
       unfold endRound at h
       split at h
       ·rename_i r₃ hl₃
        have KX:=hg₂.le _ _ Cf
        have Ue:=T6.lz.obj l _ i ⟨i,KX⟩ hl₃ KX
        obtain ⟨L₃,u1,u2,u3,u4⟩:=Ue.there
        have fin: ∀(st:LoopState) (pd:Option Code),(pd=none∨pd=some .ret∨ ∃id,pd=some (.exit id))→
          bH ng T B ι (Full ι) s w ι₂ (Vm.cM ic.s l { r₃ with state:=st,pending:=pd }) (w₂.putObj i.r (.loop { L₃ with state:=st,pending:=pd })):=fun st pd wM=>
         ((DW.seq jD).seq hg₂).seq (bH.cM T6.lz hl₃ KX (Ue.Z0 u1 st pd wM))
        split at h
        ·simp at h
         obtain ⟨rfl,rfl⟩:=h
         exact ⟨_,_,run_endRound none u1,ι₂,_,rfl,.bool _,fin .ready none (.inl rfl)⟩
        ·simp at h
         obtain ⟨rfl,rfl⟩:=h
         exact ⟨_,_,run_endRound (some .ret) u1,ι₂,_,rfl,.bool _,fin .done (some .ret) (.inr (.inl rfl))⟩
        ·rename_i id
         simp at h
         obtain ⟨rfl,rfl⟩:=h
         exact ⟨_,_,run_endRound (some (.exit id)) u1,ι₂,_,rfl,.bool _,fin .done (some (.exit id)) (.inr (.inr ⟨id,rfl⟩))⟩
       ·cases h
      ·cases h
     ·cases h
    ·cases h
   ·cases h
 ·cases h
end Go.Vm
end
noncomputable section
namespace Go.Vm
open Go
variable {ng:Nat} {T:Types} {B:Nat} {ι ι₁ ι' ua:bN} {s s₁ s' tR:St} {w w₀ w₁ w' w'':World} {P:Program} {rec:Rec} {O:aL} {G:Tr Func}
theorem tc (w:World) (o:Obj):(w.alloc o).heap[w.heap.size]? =some o:=World.alloc_heap_new w o
theorem rW (dj:iY ng T B P rec) (eY:iX ng T B P rec) {ro gx:Option Nat} {fr fr':Fr} {x:VX} {g:Operand} {ps:Array Tmp} {assign body:Code} {d:Nat} {ms:List Nat}
  (hg:ld ng g=true) (ha:codeOk ng assign=true) (hb:codeOk ng body=true) (hr:b9 rec ro fr g ps assign body d ms s=some (.code x fr'))
  {a:Act} {mark:List Deferred} {j:lC} (bX:fa ng T B ι fr a w) (kV:bH ng T B ι (Full ι) fr.s w ι₁ s w₀) (hro:nW ι ro gx) (hj:ι₁ d=some j) (hm:Marks ι₁ ms (mark++a.defers))
  (KG: ∀fn,(Instr.enterLoop fn a.tmps ps assign body gx).run P w= .ok (w₀.heap.size,mark) (w₀.alloc (.loop { state:= .ready,pending:=none,fn,tmps:=a.tmps,params:=ps,assign,body,defers:=j.r }))):
  (Code.rangeFunc g ps assign body).wpIn (Fw gx) 0 P (db ng T B ι fr.s w x fr') a w:=by
 unfold b9 at hr
 split at hr
 ·rename_i f first captured lv
  have Ed:=bX.env.ev bX.qg hg
  rw [lv] at Ed
  obtain ⟨q,hq⟩: ∃q,a.eval g=q:=⟨_,rfl⟩
  rw [hq] at Ed
  split at hr
  ·rename_i v s₂ eR
   refine wpIn_rangeFunc fun fn _=> ?_
   cases Ed with
   |func _ l1 l1' l2 l2' r1 r2=>
    have hold:ι.le ι₁:=kV.le
    obtain ⟨wl,Ur⟩: ∃x,x=w₀.alloc (.loop { state:= .ready,pending:=none,fn,tmps:=a.tmps,params:=ps,assign,body,defers:=j.r }):=⟨_,rfl⟩
    have Ae:=KG fn
    rw [←Ur] at Ae
    have KP:=bH.new (hO:=by rw [Ur];exact ⟨rfl,rfl⟩) (w':=wl) kV.full
     (.loop { state:= .ready,pending:=none,fn:=0,e:=fr.e,nt:=fr.nt,params:=ps.toList,assign:=assign,body:=body,defers:=d })
     (.loop { state:= .ready,pending:=none,fn,tmps:=a.tmps,params:=ps,assign,body,defers:=j.r }) 0 (by rw [Ur];rfl) (by
      have hle:=bN.pC kV.full.lt ⟨w₀.heap.size,0,0⟩
      rw [Ur]
      exact ⟨⟨_,tc _ _,rfl,rfl,bX.env.mono (bN.le_trans hold hle),rfl,rfl,rfl,j,hle _ _ hj,rfl⟩,⟨ha,hb⟩,.inl rfl,kV.full.base⟩)
    have hle:=KP.le
    have D7:=bN.add_same ι₁ s.n ⟨w₀.heap.size,0,0⟩
    obtain ⟨OH,IF⟩: ∃x,x=(⟨l1'⟩:Array Value)++ #[Value.func (.yield w₀.heap.size) #[] #[]]++(⟨l2'⟩:Array Value):=⟨_,rfl⟩
    have hargs:bg (ι₁.add s.n ⟨w₀.heap.size,0,0⟩) (l1++(.func (.yield s.n) #[] #[]::l2)) OH.toList:=by
     have:=(r1.mono (bN.le_trans hold hle)).append (bg.cons _ _ _ _ (bj.yield s.n _ D7) (r2.mono (bN.le_trans hold hle)))
     rw [IF]
     simpa using this
    obtain ⟨ll,qG⟩:=eY _ _ _ _ _ eR _ _ _ KP.full (bX.qg.mono (bN.le_trans hold hle)) hargs
    refine ⟨w₀.heap.size,mark,wl, { target:= .fn (.func f) ⟨l2'⟩,args:=(⟨l1'⟩:Array Value)++ #[Value.func (.yield w₀.heap.size) #[] #[]] },wl,f,OH,wl,Ae,?_,fun _ _=>trivial,?_,fun h=>by simp [Fw,Fence.wide] at h,?_⟩
    ·have e0: ∀v,a.eval (.const v)=v:=fun _=>rfl
     simp [resolve,hq,Deferred.ofValue,e0]
    ·simp only [invoke]
     rw [IF]
     exact ll.run _ _
    ·refine CallsIn.mono (F:=Fw gx) (n:=0) (P:=P) (R:=fp ng T B (ι₁.add s.n ⟨w₀.heap.size,0,0⟩) _ _ v s₂) qG fun e w₃ hp=> ?_
     obtain ⟨ι₂,v',rfl,hv,DV⟩:=hp
     simp only [rangePost]
     split at hr
     ·rename_i r hl
      have KX:=DV.le _ _ D7
      have ho:=DV.full.obj _ _ _ ⟨_,KX⟩ hl KX
      obtain ⟨L,q1,q2,q3,q4⟩:=ho.there
      have hgoes:=((kV.seq KP).seq DV)
      have hmk:Marks ι₂ ms (mark++a.defers):=hm.mono (bN.le_trans hle DV.le)
      split at hr
      ·cases hr
      ·rename_i hst
       have hnb:L.state≠ .busy:=by rw [q2];exact hst
       have jD:=bH.cM DV.full hl KX (ho.Z0 q1 .exhausted r.pending ho.jump)
       have e1:({ L with state:= .exhausted,pending:=r.pending } :Loop)= { L with state:= .exhausted } :=by rw [←q3]
       rw [e1] at jD
       obtain ⟨w₄,hw₄⟩: ∃x,x=w₃.putObj w₀.heap.size (.loop { L with state:= .exhausted }):=⟨_,rfl⟩
       have jD:bH ng T B ι₂ (Full ι₂) s₂ w₃ ι₂ (Vm.cM s₂ s.n { r with state:= .exhausted }) w₄:=by rw [hw₄];exact jD
       have KJ:=hgoes.seq jD
       have Qb:fa ng T B ι₂ { fr with s:=Vm.cM s₂ s.n { r with state:= .exhausted },ms:=ms } { a with defers:=mark++a.defers } w₄:=
        ⟨jD.full,bX.qg.mono hgoes.le,bX.env.mono hgoes.le,hmk⟩
       refine ⟨L.pending,w₄,by rw [hw₄];exact run_endLoop q1 hnb,?_⟩
       split at hr
       ·rename_i wM
        simp at hr
        obtain ⟨rfl,rfl⟩:=hr
        have:L.pending=none:=by rw [q3,wM]
        rw [this]
        exact ⟨rfl,ι₂,KJ,Qb⟩
       ·rename_i c wM
        have hpc:L.pending=some c:=by rw [q3,wM]
        rw [hpc]
        have Kz:codeOk ng c=true:=by
         rcases ho.jump with h|h|⟨id,h⟩
         ·rw [wM] at h;cases h
         ·rw [wM] at h;cases h;rfl
         ·rw [wM] at h;cases h;rfl
        have:=dj _ _ _ _ _ hr Kz ι₂ _ _ gx Qb (hro.mono hgoes.le)
        exact wpIn_mono this fun e a' w' hp=>db.seq KJ hp
     ·cases hr
  ·cases hr
 ·cases hr
theorem mO {l:Nat} {r:Loop} (h:w.heap[l]? =some (.loop r)) (fn:FuncId) (tmps:Array Value) (ps:Array Tmp) (assign body:Code):
  (Instr.enterLoop fn tmps ps assign body (some l)).run P w=
   .ok (w.heap.size, []) (w.alloc (.loop { state:= .ready,pending:=none,fn,tmps,params:=ps,assign,body,defers:=r.defers })):=by
 unfold Instr.enterLoop
 simp only [Sem.run_bind,run_getLoop h,run_newObj_alloc,Result.andThen,Sem.run_pure]
theorem Dv (dj:iY ng T B P rec) (eY:iX ng T B P rec) {ro gx:Option Nat} {fr fr':Fr} {x:VX} {g:Operand} {ps:Array Tmp} {assign body:Code}
  (hg:ld ng g=true) (ha:codeOk ng assign=true) (hb:codeOk ng body=true) (hr:fX rec ro fr g ps assign body=some (.code x fr'))
  {a:Act} (bX:fa ng T B ι fr a w) (hro:nW ι ro gx):(Code.rangeFunc g ps assign body).wpIn (Fw gx) 0 P (db ng T B ι fr.s w x fr') a w:=by
 unfold fX at hr
 split at hr
 ·rename_i l
  cases gx with
  |none=>exact hro.elim
  |some r'=>
   obtain ⟨i,hi,rfl⟩:=hro
   split at hr
   ·rename_i r hl
    have ho:=bX.lz.obj l _ i ⟨i,hi⟩ hl hi
    obtain ⟨L,h1,h2,h3,h4,h5,h6,h7,j,h8,h9⟩:=ho.there
    refine rW dj eY (mark:= []) hg ha hb hr bX (bH.refl bX.lz rfl) ⟨i,hi,rfl⟩ h8 bX.marks fun fn=> ?_
    rw [mO h1,h9]
   ·cases hr
 ·cases gx with
  |some r'=>exact hro.elim
  |none=>
   have D7:=bH.new (w':=w.alloc (.deferred (some []))) bX.lz .defs (.deferred (some [])) 0 rfl ⟨tc _ _,bX.lz.base⟩
   refine rW dj eY (mark:= [{ target:= .collected w.heap.size,args:= #[] }]) hg ha hb hr bX D7 trivial (bN.add_same _ _ _)
    ⟨⟨_,bN.add_same _ _ _,rfl⟩,bX.marks.mono D7.le⟩ fun fn=> ?_
   rw [run_enterLoop_outer]
   simp
theorem A9 (hT:lG P T) (tw:ud ng T B P) {n:Nat} (dj:iY ng T B P rec) (Ql:oQ ng T B P rec n) (hrun:CA ng T B P rec) (eY:iX ng T B P rec):
  oQ ng T B P (fun t=>match t with
   | .code c ro fr=>cN rec c ro fr
   |_=>none) (n+1)∧(∀c ro fr x fr',cN rec c ro fr=some (.code x fr')→codeOk ng c=true→
   ∀(ι:bN) a w gx,fa ng T B ι fr a w→nW ι ro gx→c.wpIn (Fw gx) 0 P (db ng T B ι fr.s w x fr') a w):=by
 have D2: ∀c ro fr x fr',dJ rec ro fr c=some (.code x fr')→codeOk ng c=true→
   ∀(ι:bN) a w gx,fa ng T B ι fr a w→nW ι ro gx→Code.roundsIn (Fw gx) 0 P c (db ng T B ι fr.s w x fr') (n+1) a w:=by
  intro c ro fr x fr' h hok ι a w gx bX hro
  unfold dJ at h
  split at h
  ·rename_i gB h1
   refine wpIn_mono (dj _ _ _ _ _ h1 hok ι a w gx bX hro) fun e a₁ w₁ hp=> ?_
   obtain ⟨rfl,ι₁,DW,Cd⟩:=hp
   simp only [pf,Exit.then]
   exact nh (fun e a w hp=>db.seq DW hp) n _ _ (Ql _ _ _ _ _ h hok ι₁ a₁ w₁ gx Cd (hro.mono DW.le))
  ·rename_i hne
   have hx:x≠ .normal:=fun e=>by subst e;exact hne _ h
   refine wpIn_mono (dj _ _ _ _ _ h hok ι a w gx bX hro) fun e a₁ w₁ hp=> ?_
   have:=hp.1
   cases x with
   |normal=>exact absurd rfl hx
   |exit id=>subst this;exact hp
   |ret=>subst this;exact hp
 refine ⟨fun c ro fr x fr' h hok=>D2 c ro fr x fr' h hok,fun c ro fr x fr' h hok ι a w gx bX hro=> ?_⟩
 cases c<;>simp only [cN] at h<;>try (cases h;done)
 case skip=>simp at h;obtain ⟨rfl,rfl⟩:=h;exact wpIn_skip (db.here (x:= .normal) bX)
 case label l=>simp at h;obtain ⟨rfl,rfl⟩:=h;exact wpIn_label (db.here (x:= .normal) bX)
 case ret=>simp at h;obtain ⟨rfl,rfl⟩:=h;exact wpIn_ret (db.here (x:= .ret) bX)
 case exit id=>simp at h;obtain ⟨rfl,rfl⟩:=h;exact wpIn_exit (db.here (x:= .exit id) bX)
 case region id ops dr=>
  simp only [codeOk,Bool.and_eq_true] at hok
  obtain ⟨hok,Ec⟩:=hok
  obtain ⟨fl,gB,h1,h2,h3⟩:=hrun _ _ _ _ _ _ h hok [] (fun _=>rfl)
  cases h2
  cases dr with
  |false=>
   refine wpIn_region ?_
   have:=h1.order hok 0 (by simp) ι a w gx (db ng T B ι fr.s w .normal fr') bX fun ι' a' w' hg hf=>⟨rfl,ι',hg,hf⟩
   rw [List.range_eq_range']
   simpa using this
  |true=>exact tw _ _ _ _ h1 (h3 rfl) hok (by simpa using Ec) ι a w gx id _ bX fun ι' a' w' hg hf=>⟨rfl,ι',hg,hf⟩
 case seq c₁ c₂=>
  simp only [codeOk,Bool.and_eq_true] at hok
  unfold eT at h
  refine wpIn_seq ?_
  split at h
  ·rename_i gB h1
   refine wpIn_mono (dj _ _ _ _ _ h1 hok.1 ι a w gx bX hro) fun e a₁ w₁ hp=> ?_
   obtain ⟨rfl,ι₁,DW,Cd⟩:=hp
   simp only [pf,Exit.then]
   exact wpIn_mono (dj _ _ _ _ _ h hok.2 ι₁ a₁ w₁ gx Cd (hro.mono DW.le)) fun e a w hp=>db.seq DW hp
  ·rename_i hne
   have hx:x≠ .normal:=fun e=>by subst e;exact hne _ h
   refine wpIn_mono (dj _ _ _ _ _ h hok.1 ι a w gx bX hro) fun e a₁ w₁ hp=> ?_
   have:=hp.1
   cases x with
   |normal=>exact absurd rfl hx
   |exit id=>subst this;exact hp
   |ret=>subst this;exact hp
 case cond c c₁ c₂=>
  simp only [codeOk,Bool.and_eq_true] at hok
  have hc:=bX.env.ev bX.qg hok.1.1
  unfold eo at h
  split at h
  ·rename_i e
   rw [e] at hc
   obtain ⟨q,hq⟩: ∃q,a.eval c=q:=⟨_,rfl⟩
   rw [hq] at hc
   cases hc
   exact wpIn_cond_true hq (dj _ _ _ _ _ h hok.1.2 ι a w gx bX hro)
  ·rename_i e
   rw [e] at hc
   obtain ⟨q,hq⟩: ∃q,a.eval c=q:=⟨_,rfl⟩
   rw [hq] at hc
   cases hc
   exact wpIn_cond_false hq (dj _ _ _ _ _ h hok.2 ι a w gx bX hro)
  ·cases h
 case block id c=>
  simp only [codeOk] at hok
  unfold dC at h
  refine wpIn_block ?_
  split at h
  ·rename_i j gB h1
   refine wpIn_mono (dj _ _ _ _ _ h1 hok ι a w gx bX hro) fun e a₁ w₁ hp=> ?_
   obtain ⟨rfl,ι₁,DW,Cd⟩:=hp
   simp only [pf,Exit.inBlock]
   split at h
   ·rename_i he
    have he:=Nat.eq_of_beq_eq_true he
    simp at h
    obtain ⟨rfl,rfl⟩:=h
    rw [if_pos he]
    exact ⟨rfl,ι₁,DW,Cd⟩
   ·rename_i he
    simp at h
    obtain ⟨rfl,rfl⟩:=h
    have:j≠id:=fun e=>by subst e;simp at he
    rw [if_neg this]
    exact ⟨rfl,ι₁,DW,Cd⟩
  ·rename_i hne
   refine wpIn_mono (dj _ _ _ _ _ h hok ι a w gx bX hro) fun e a₁ w₁ hp=> ?_
   have:=hp.1
   cases x with
   |normal=>subst this;exact hp
   |exit j=>exact absurd h (hne _ _)
   |ret=>subst this;exact hp
 case loop c=>
  simp only [codeOk] at hok
  exact wpIn_loop_rounds (n+1) (D2 _ _ _ _ _ h hok ι a w gx bX hro)
 case scope c=>
  simp only [codeOk] at hok
  refine zj (wpIn_mono (dj _ _ _ _ _ h hok ι a w gx bX hro) fun e a₁ w₁ hp=> ?_)
  have:=hp.1
  cases x<;>(subst this;exact hp)
 case rangeFunc g ps assign body=>
  simp only [codeOk,Bool.and_eq_true] at hok
  exact Dv dj eY hok.1.1 hok.1.2 hok.2 h bX hro
def Ic (ng:Nat) (P:Program) (G:Tr Func):Prop:= ∀f fn,G.get f=some fn→P.funcs[f]? =some fn∧(fn.name == "runtime.NumGoroutine")=false∧ ∀c,fn.body=some c→codeOk ng c=true
def qS (ng:Nat) (T:Types) (B:Nat) (P:Program) (O:aL):Prop:= ∀f args s v s',O f args s=some (v,s')→ ∀(ι:bN) w (args':Array Value),gW ng T ι (Full ι) B s w→iP ng ι→
 bg ι args args'.toList→jd P f∧CallsIn Fence.wide 0 P f args' w (fp ng T B ι s w v s')
theorem pc {args:List Value} {args':Array Value} (h:bg ι args args'.toList) {nt:Nat} (hle:args.length≤nt):gd ι (Tr.ofList .leaf 0 args) nt (args'++Array.replicate (nt - args'.size) undef):=by
 have hlen:=h.length
 simp only [Array.length_toList] at hlen
 refine ⟨by simp;omega,fun (t:Nat)=> ?_⟩
 have iA:(Tr.ofList .leaf 0 args).get t=args[t]? :=by
  rw [Tr.rq]
  split
  ·simp
  ·rename_i hn
   rw [Tr.fu,List.getElem?_eq_none (by omega)]
 simp only [ev,iA]
 rw [Array.getD_eq_getD_getElem?]
 by_cases ht:t<args.length
 ·obtain ⟨v',ji,bZ⟩:=h.get (List.getElem?_eq_getElem ht)
  rw [List.getElem?_eq_getElem ht]
  have:(args'++Array.replicate (nt - args'.size) undef)[t]? =some v':=by
   rw [Array.getElem?_append_left (by omega)]
   simpa using ji
  rw [this]
  exact bZ
 ·rw [List.getElem?_eq_none (by omega)]
  have:((args'++Array.replicate (nt - args'.size) undef)[t]?).getD undef=undef:=by
   rw [Array.getElem?_append_right (by omega),Array.getElem?_replicate]
   split<;>rfl
  rw [this]
  exact .undef _
theorem A0 (hT:lG P T) (hG:Ic ng P G) (hO:qS ng T B P O) (dj:iY ng T B P rec): ∀f args s v s',cZ O G T rec f args s=some (.val v s')→ ∀(ι:bN) w (args':Array Value),gW ng T ι (Full ι) B s w→iP ng ι→
  bg ι args args'.toList→jd P f∧CallsIn Fence.wide 0 P f args' w (fp ng T B ι s w v s'):=by
 intro f args s v s' h ι w args' fC hg ha
 unfold cZ at h
 split at h
 ·rename_i v₁ s₁ ho
  simp at h
  obtain ⟨rfl,rfl⟩:=h
  exact hO _ _ _ _ _ ho ι w args' fC hg ha
 ·split at h
  ·cases h
  ·rename_i fn hf
   obtain ⟨hP,hname,hok⟩:=hG f fn hf
   split at h
   ·cases h
   ·rename_i c hb
    split at h
    ·cases h
    ·rename_i hle
     rw [Nat.ble_eq] at hle
     refine ⟨⟨fn,hP,by simp [hb],hname⟩,callsIn_of_wp_marks hP hb trivial ?_⟩
     have bX:fa ng T B ι { e:=Tr.ofList .leaf 0 args,nt:=fn.ntmps,s:=s,ms:= [] } { tmps:=args'++Array.replicate (fn.ntmps - args'.size) undef,defers:= [] } w:=
      ⟨fC,hg,pc ha hle,trivial⟩
     have fin: ∀(x:VX) (fr:Fr),(x= .normal∨x= .ret)→leave T fn fr=some (.val v s')→ ∀e a' w',db ng T B ι s w x fr e a' w'→bodyPostM Fence.wide 0 P fn (fp ng T B ι s w v s') e a' w':=by
      intro x fr hx hl e a' w' hp
      obtain ⟨rfl,ι',kV,DR⟩:=hp
      unfold leave at hl
      split at hl
      ·cases hl
      ·rename_i s₂ hsh
       split at hl
       ·rename_i l hres
        simp at hl
        obtain ⟨rfl,rfl⟩:=hl
        have hlv:=leaves (P:=P) (fr:= { fr with s:=s₂ }) hT DR.lz DR.env DR.marks hsh rfl rfl hres (fp ng T B ι s w (fi l) s₂) fun v' w'' hv ql=>⟨ι',v',rfl,hv,kV.seq ql⟩
        rcases hx with rfl|rfl
        ·exact hlv
        ·exact hlv
       ·cases hl
     split at h
     ·rename_i fr eR
      exact wpIn_mono (dj _ _ _ _ _ eR (hok c hb) ι _ w none bX trivial) (fin _ _ (.inl rfl) h)
     ·rename_i fr eR
      exact wpIn_mono (dj _ _ _ _ _ eR (hok c hb) ι _ w none bX trivial) (fin _ _ (.inr rfl) h)
     ·cases h
theorem sZ (hT:lG P T) (hG:Ic ng P G) (hO:qS ng T B P O) (Kk:ia O) (tw:ud ng T B P): ∀n,iY ng T B P (go O G T n)∧oQ ng T B P (go O G T n) n∧CA ng T B P (go O G T n)∧iX ng T B P (go O G T n)∧nz ng T B P (go O G T n)
 |0=>by
  have h0: ∀t,go O G T 0 t=none:=fun _=>rfl
  refine ⟨?_,?_,?_,?_,?_⟩
  ·intro c ro fr x fr' h;rw [h0] at h;cases h
  ·intro c ro fr x fr' h;rw [h0] at h;cases h
  ·intro ops dr flags l fr res h;rw [h0] at h;cases h
  ·intro f args s v s' h;rw [h0] at h;cases h
  ·intro l args s v s' h;rw [h0] at h;cases h
 |n+1=>by
  obtain ⟨h1,h2,h3,h4,h5⟩:=sZ hT hG hO Kk tw n
  have hc:=A9 hT tw h1 h2 h3 h4
  exact ⟨fun c ro fr x fr' h=>hc.2 c ro fr x fr' h,fun c ro fr x fr' h=>hc.1 c ro fr x fr' h,fun ops dr flags l fr res h hok zO hfl=>BO hT (lV T G Kk n) h4 h5 h3 h hok zO hfl,
   fun f args s v s' h=>A0 hT hG hO h1 f args s v s' h,fun l args s v s' h=>yW h1 l args s v s' h⟩
end Go.Vm
end
noncomputable section
namespace Go.Vm
open Go
variable {ng:Nat} {T:Types} {B:Nat} {ι ι₁ ι' ua:bN} {s s₁ s' tR:St} {w w₁ w' w'':World} {P:Program} {ops:Array Oper}
def bN.cut (ι:bN) (n:Nat):bN:=fun b=>if b<n then ι b else none
theorem bN.en {n b:Nat} {i:lC} (h:ι.cut n b=some i):b<n∧ι b=some i:=by
 unfold bN.cut at h
 split at h
 ·rename_i hb;exact ⟨hb,h⟩
 ·cases h
theorem bN.nB {n b:Nat} {i:lC} (h:ι b=some i) (hb:b<n):ι.cut n b=some i:=by simp [bN.cut,hb,h]
theorem bN.C8 (ι:bN) (n:Nat):(ι.cut n).le ι:=fun _ _ h=>(bN.en h).2
theorem bN.vZ (ι:bN) {n m:Nat} (h:n≤m):(ι.cut n).le (ι.cut m):=fun _ _ h'=>bN.nB (bN.en h').2 (Nat.lt_of_lt_of_le (bN.en h').1 h)
theorem bN.qZ (h:ι.le ι') (n:Nat):(ι.cut n).le (ι'.cut n):=fun _ _ h'=>bN.nB (h _ _ (bN.en h').2) (bN.en h').1
theorem fq.narrow (hi:ι.le ι'): ∀ {es:List (Value×Value)} {ms uP:List MapEntry},fq ι es ms→fq ι' es uP→fq ι es uP
 | [], [], [],_,_=>trivial
 |(_,_)::_,_::_,_::_,⟨a,b,c⟩,⟨a',b',c'⟩=>⟨a.narrow hi a',b.narrow hi b',fq.narrow hi c c'⟩
 | [], [],_::_,_,h=>h.elim
 | [],_::_,_,h,_=>h.elim
 |(_,_)::_, [],_,h,_=>h.elim
 |(_,_)::_,_::_, [],_,h=>h.elim
theorem eU.narrow {o:eI} {i:lC} (hi:ι.le ι') (h:eU ng T ι B o i w) (h':eU ng T ι' B o i w'):eU ng T ι B o i w':=by
 cases o with
 |cells cs e sl own=>
  refine ⟨h'.there,fun j v hj=> ?_,h'.room,h'.tight,h'.mine,h'.Ce⟩
  obtain ⟨v₁,_,r₁⟩:=h.kQ j v hj
  obtain ⟨v₂,c₂,r₂⟩:=h'.kQ j v hj
  exact ⟨v₂,c₂,r₁.narrow hi r₂⟩
 |map es own=>
  obtain ⟨ms,c,_,_,p₁,_⟩:=h.there
  obtain ⟨uP,c',h₂,l,p₂,hx⟩:=h'.there
  exact ⟨⟨uP,c',h₂,l,fq.narrow hi p₁ p₂,hx⟩,h'.mine,h'.Ce⟩
 |loop r=>
  obtain ⟨L,_,_,_,e₁,_,_,_,j,d₁,_⟩:=h.there
  obtain ⟨L',h1,h2,h3,e₂,h5,h6,h7,j',d₂,h9⟩:=h'.there
  have hj:=hi _ _ d₁
  rw [d₂] at hj
  cases hj
  exact ⟨⟨L',h1,h2,h3,⟨e₂.size,fun t=>(e₁.rel t).narrow hi (e₂.rel t)⟩,h5,h6,h7,_,d₁,h9⟩,h'.ok,h'.jump,h'.mine⟩
 |defs=>exact h'
 |dead=>trivial
def kq (ops:Array Oper) (L:Nat→Prop):Prop:= ∀k o,L k→ops[k]? =some o→ ∀e∈o.after,Region.binds .any e=true→L e.on
theorem rK {L:Nat→Prop} {acc:List Nat} (Hm: ∀k i,L k→(acc.getD k 0).testBit i=true→L i): ∀(es:List Edge),(∀e∈es,Region.binds .any e=true→L e.on)→ ∀i,(nK acc es).testBit i=true→L i
 | [],_,i,h=>by simp [nK] at h
 |e::es,he,i,h=>by
  have ih:=rK Hm es (fun e' he'=>he e' (by simp [he']))
  unfold nK at h
  split at h
  ·rename_i hb
   rw [Nat.testBit_or,Nat.testBit_or] at h
   simp only [Bool.or_eq_true] at h
   have hon:=he e (by simp) hb
   rcases h with (h|h)|h
   ·rw [Nat.testBit_two_pow] at h
    simp at h
    exact h ▸ hon
   ·exact Hm _ _ hon h
   ·exact ih i h
  ·exact ih i h
theorem pZ {L:Nat→Prop} (hc:kq ops L): ∀(l:List Oper) (acc:List Nat),l=ops.toList.drop acc.length→(∀k i o,ops[k]? =some o→(∀e∈o.after,Region.binds .any e=true→L e.on)→(acc.getD k 0).testBit i=true→L i)→
  ∀k i o,ops[k]? =some o→(∀e∈o.after,Region.binds .any e=true→L e.on)→((iR acc l).getD k 0).testBit i=true→L i
 | [],acc,_,h,k,i,o=>by simpa [iR] using h k i o
 |o'::l,acc,hl,h,k,i,o=>by
  simp only [iR]
  have iA:ops[acc.length]? =some o':=by
   have:(ops.toList.drop acc.length)[0]? =some o':=by rw [←hl];rfl
   rw [List.getElem?_drop] at this
   simpa using this
  refine pZ hc l (acc++ [nK acc o'.after.toList]) ?_ (fun k i o ho he hb=> ?_) k i o
  ·rw [List.length_append,List.length_singleton,←List.drop_drop,←hl];rfl
  ·have Hm: ∀k i,L k→(acc.getD k 0).testBit i=true→L i:=fun k i hk hb=>by
    cases hok:ops[k]? with
    |none=>
     have hge:ops.size≤k:=Array.getElem?_eq_none_iff.1 hok
     have hlen:acc.length<ops.size:=(Array.getElem?_eq_some_iff.1 iA).1
     rw [List.getD_eq_getElem?_getD,List.getElem?_eq_none (by omega)] at hb
     simp at hb
    |some ok=>exact h k i ok hok (hc k ok hk hok) hb
   by_cases hk:k<acc.length
   ·rw [List.getD_eq_getElem?_getD,List.getElem?_append_left hk,←List.getD_eq_getElem?_getD] at hb
    exact h k i o ho he hb
   ·by_cases hk':k=acc.length
    ·subst hk'
     rw [iA] at ho
     cases ho
     rw [List.getD_eq_getElem?_getD,List.getElem?_append_right (Nat.le_refl _)] at hb
     simp at hb
     exact rK Hm _ (fun e he'=>he e (by simpa using he')) i hb
    ·rw [List.getD_eq_getElem?_getD,List.getElem?_eq_none (by simp;omega)] at hb
     simp at hb
theorem pV {L:Nat→Prop} (hc:kq ops L) {i j:Nat} (hf:fixed (iR [] ops.toList) i j=true) (hij:i<j) {o:Oper} (ho:ops[j]? =some o)
  (he:L j∨ ∀e∈o.after,Region.binds .any e=true→L e.on):L i:=by
 have he: ∀e∈o.after,Region.binds .any e=true→L e.on:=he.elim (fun h=>hc j o h ho) id
 refine pZ hc ops.toList [] rfl (fun k i o _ _ hb=>by simp at hb) j i o ho he ?_
 unfold fixed at hf
 have hne:Nat.beq i j=false:=by
  cases h:Nat.beq i j with
  |false=>rfl
  |true=>have:=Nat.eq_of_beq_eq_true h;omega
 have hlt:Nat.blt i j=true:=by rw [Nat.blt_eq];exact hij
 rw [hne,hlt] at hf
 simpa using hf
theorem yp {bf:List Nat} {i j:Nat} (h:fixed bf i j=true) (hij:i<j):fixed bf j i=true:=by
 unfold fixed at h ⊢
 have h1:Nat.beq i j=false:=by
  cases h:Nat.beq i j with
  |false=>rfl
  |true=>have:=Nat.eq_of_beq_eq_true h;omega
 have h2:Nat.beq j i=false:=by
  cases h:Nat.beq j i with
  |false=>rfl
  |true=>have:=Nat.eq_of_beq_eq_true h;omega
 have h3:Nat.blt i j=true:=by rw [Nat.blt_eq];exact hij
 have h4:Nat.blt j i=false:=by
  cases h:Nat.blt j i with
  |false=>rfl
  |true=>rw [Nat.blt_eq] at h;omega
 rw [h1,h3] at h
 rw [h2,h4]
 simpa using h
def CC (ng:Nat) (T:Types) (B:Nat) (P:Program) (ops:Array Oper) (x:Fr) (o:Oper) (y:Fr) (f:de):Prop:=
 ∃v s₁,put x o.dst v { s₁ with wm:=min x.s.wm s₁.wm } =some y∧cH x.s { s₁ with wm:=min x.s.wm s₁.wm } ∧(∀b,b<x.s.n→ ¬bG f.w b→s₁.h.get b=x.s.h.get b)∧f.lo=x.s.n∧f.hi=s₁.n∧
  ((cg ops x.e o=false∧v=undef∧s₁=x.s∧f.w=some [])∨(cg ops x.e o=true∧Cw ng T B P x o v s₁ f.t∧(∀b,bG f.w b→s₁.wm<x.s.n)∧
   f.t=ag (ev x.e) o.op∧f.w=writes (ev x.e) o.op (Nat.blt s₁.wm x.s.n)))
theorem oR.index {fl og:List de} {l:List Oper} {fr fr':Fr} (h:oR ng T B P ops fl l fr og fr'): ∀k,l=ops.toList.drop k→k≤ops.size→ ∃(F:Nat→Fr) (f:Nat→de),F k=fr∧F ops.size=fr'∧
  og.reverse=fl.reverse++(List.range' k (ops.size - k)).map f∧ ∀j o,k≤j→ops[j]? =some o→CC ng T B P ops (F j) o (F (j+1)) (f j):=by
 have BZ: ∀ {ρ:Operand→Value} {o:Op} {wr:Bool} {b:Nat},bG (writes ρ o wr) b→wr=true:=by
  intro ρ o wr b h
  cases wr with
  |true=>rfl
  |false=>simp [writes,bG] at h
 induction h with
 |nil fl fr=>
  intro k hk hle
  have:ops.size=k:=by
   have:=congrArg List.length hk
   simp at this;omega
  subst this
  refine ⟨fun _=>fr,fun _=>⟨none,none,0,0⟩,rfl,rfl,by simp,fun j o hj ho=> ?_⟩
  have:=(Array.getElem?_eq_some_iff.1 ho).1
  omega
 |skip fl og o l fr gB fr' hw hp _ ih=>
  intro k hk hle
  have hlt:k<ops.size:=by
   have:=congrArg List.length hk
   simp at this;omega
  have iA:ops[k]? =some o:=by
   have:=drop_cons hk.symm
   simpa using this
  obtain ⟨F,f,h1,h2,h3,h4⟩:=ih (k+1) (by rw [←List.drop_drop,←hk];rfl) hlt
  refine ⟨fun j=>if j=k then fr else F j,fun j=>if j=k then ⟨some [],some [],fr.s.n,fr.s.n⟩ else f j,by simp,by show (if ops.size=k then fr else F ops.size)=fr';rw [if_neg (by omega)];exact h2,?_,fun j o' hj ho=> ?_⟩
  ·rw [h3,show ops.size - k=(ops.size - (k+1))+1 by omega,List.range'_succ]
   simp only [List.reverse_cons,List.append_assoc,List.map_cons,if_true,List.singleton_append]
   congr 2
   apply List.map_congr_left
   intro j hj
   simp [List.mem_range'] at hj
   obtain ⟨x,M9,Ao⟩:=hj
   rw [if_neg (by omega)]
  ·by_cases e:j=k
   ·subst e
    rw [iA] at ho;cases ho
    simp only [if_true]
    rw [if_neg (by omega),h1]
    refine ⟨undef,fr.s,by simpa using hp,by simpa using aV.refl _ fr.s,fun _ _ _=>rfl,rfl,rfl,.inl ⟨hw,rfl,rfl,rfl⟩⟩
   ·simp only [if_neg e,if_neg (show ¬j+1=k by omega)]
    exact h4 j o' (by omega) ho
 |op fl og o l fr gB fr' v s₁ hw hp hf hk' _ ih=>
  intro k hk hle
  have hlt:k<ops.size:=by
   have:=congrArg List.length hk
   simp at this;omega
  have iA:ops[k]? =some o:=by
   have:=drop_cons hk.symm
   simpa using this
  obtain ⟨F,f,h1,h2,h3,h4⟩:=ih (k+1) (by rw [←List.drop_drop,←hk];rfl) hlt
  refine ⟨fun j=>if j=k then fr else F j,fun j=>if j=k then ⟨ag (ev fr.e) o.op,writes (ev fr.e) o.op (Nat.blt s₁.wm fr.s.n),fr.s.n,s₁.n⟩ else f j,by simp,by show (if ops.size=k then fr else F ops.size)=fr';rw [if_neg (by omega)];exact h2,?_,fun j o' hj ho=> ?_⟩
  ·rw [h3,show ops.size - k=(ops.size - (k+1))+1 by omega,List.range'_succ]
   simp only [List.reverse_cons,List.append_assoc,List.map_cons,if_true,List.singleton_append]
   congr 2
   apply List.map_congr_left
   intro j hj
   simp [List.mem_range'] at hj
   obtain ⟨x,M9,Ao⟩:=hj
   rw [if_neg (by omega)]
  ·by_cases e:j=k
   ·subst e
    rw [iA] at ho;cases ho
    simp only [if_true]
    rw [if_neg (by omega),h1]
    exact ⟨v,s₁,hp,hk'.1,hk'.2,rfl,rfl,.inr ⟨hw,hf,fun b hb=>by have:=BZ hb;rwa [Nat.blt_eq] at this,rfl,rfl⟩⟩
   ·simp only [if_neg e,if_neg (show ¬j+1=k by omega)]
    exact h4 j o' (by omega) ho
end Go.Vm
end
noncomputable section
namespace Go.Vm
open Go
variable {ng:Nat} {T:Types} {B:Nat} {ι ι₁ ι' ua:bN} {s s₁ s' tR:St} {w w₁ w' w'':World} {P:Program} {ops:Array Oper} {F:Nat→Fr} {f:Nat→de}
structure Canon (ng:Nat) (T:Types) (B:Nat) (P:Program) (ops:Array Oper) (F:Nat→Fr) (f:Nat→de):Prop where
 step: ∀j o,ops[j]? =some o→CC ng T B P ops (F j) o (F (j+1)) (f j)
 tmps:zf ops (iR [] ops.toList) ops.toList.zipIdx=true
 fF: ∀i j,i<ops.size→j<ops.size→(f i).fF (f j)=true→fixed (iR [] ops.toList) i j=true
 ok:ops.toList.all (gk ng)=true
 back:jR 0 ops.toList=true
theorem mA {j:Nat} (h:j<ops.size): ∃o,ops[j]? =some o:=⟨ops[j],by simp [h]⟩
theorem Canon.facts (C:Canon ng T B P ops F f) {j:Nat} (h:j<ops.size):(f j).lo=(F j).s.n∧(f j).hi=(F (j+1)).s.n∧cH (F j).s (F (j+1)).s∧
  (∀b,b<(F j).s.n→ ¬bG (f j).w b→(F (j+1)).s.h.get b=(F j).s.h.get b)∧(F (j+1)).nt=(F j).nt∧(F (j+1)).ms=(F j).ms∧
  (∀o t,ops[j]? =some o→o.dst≠some t→ev (F (j+1)).e (.tmp t)=ev (F j).e (.tmp t)):=by
 obtain ⟨o,ho⟩:=mA h
 obtain ⟨v,s₁,hp,hv,hk,h1,h2,_⟩:=C.step j o ho
 have hs:=AA hp
 have hput:(F (j+1)).nt=(F j).nt∧(F (j+1)).ms=(F j).ms∧ ∀t,o.dst≠some t→ev (F (j+1)).e (.tmp t)=ev (F j).e (.tmp t):=by
  unfold put at hp
  split at hp
  ·simp at hp;rw [←hp];exact ⟨rfl,rfl,fun _ _=>rfl⟩
  ·rename_i d hd
   split at hp
   ·simp at hp;rw [←hp]
    refine ⟨rfl,rfl,fun t ht=> ?_⟩
    have:t≠d:=fun e=>ht (by rw [hd,e])
    simp [ev,Tr.aK _ _ this]
   ·cases hp
 refine ⟨h1,by rw [h2,hs],by rw [hs];exact hv,fun b hb hn=>by rw [hs];exact hk b hb hn,hput.1,hput.2.1,fun o' t mC ht=>hput.2.2 t ?_⟩
 rw [ho] at mC;cases mC;exact ht
theorem Canon.vn (C:Canon ng T B P ops F f) {i j:Nat} (hij:i≤j) (h:j≤ops.size):cH (F i).s (F j).s:=by
 induction j with
 |zero=>
  have:i=0:=by omega
  subst this;exact aV.refl _ _
 |succ j ih=>
  by_cases e:i=j+1
  ·subst e;exact aV.refl _ _
  ·exact (ih (by omega) (by omega)).trans (C.facts (by omega)).2.2.1
theorem Canon.const (C:Canon ng T B P ops F f) {m n b:Nat} (Ah:m≤n) (h:n≤ops.size) (hb:b<(F m).s.n) (hk: ∀k,m≤k→k<n→ ¬bG (f k).w b):(F n).s.h.get b=(F m).s.h.get b:=by
 induction n with
 |zero=>
  have:m=0:=by omega
  subst this;rfl
 |succ n ih=>
  by_cases e:m=n+1
  ·subst e;rfl
  ·rw [(C.facts (show n<ops.size by omega)).2.2.2.1 b (Nat.lt_of_lt_of_le hb (C.vn (by omega) (by omega)).n) (hk n (by omega) (by omega))]
   exact ih (by omega) (by omega) fun k h1 h2=>hk k h1 (by omega)
theorem Canon.Di (C:Canon ng T B P ops F f) {m n:Nat} {t:Tmp} (Ah:m≤n) (h:n≤ops.size) (hk: ∀k o,m≤k→k<n→ops[k]? =some o→o.dst≠some t):ev (F n).e (.tmp t)=ev (F m).e (.tmp t):=by
 induction n with
 |zero=>
  have:m=0:=by omega
  subst this;rfl
 |succ n ih=>
  by_cases e:m=n+1
  ·subst e;rfl
  ·obtain ⟨o,ho⟩:=mA (show n<ops.size by omega)
   rw [(C.facts (show n<ops.size by omega)).2.2.2.2.2.2 o t ho (hk n o (by omega) (by omega) ho)]
   exact ih (by omega) (by omega) fun k o h1 h2=>hk k o h1 (by omega)
theorem Canon.Rt (C:Canon ng T B P ops F f) {j:Nat} (h:j≤ops.size):(F j).nt=(F 0).nt∧(F j).ms=(F 0).ms:=by
 induction j with
 |zero=>exact ⟨rfl,rfl⟩
 |succ j ih=>
  have:=C.facts (show j<ops.size by omega)
  exact ⟨by rw [this.2.2.2.2.1];exact (ih (by omega)).1,by rw [this.2.2.2.2.2.1];exact (ih (by omega)).2⟩
theorem rk (bf:List Nat) {i j:Nat} (h:fixed bf i j=true):fixed bf j i=true:=by
 rcases Nat.lt_trichotomy i j with h1|h1|h1
 ·exact yp h h1
 ·subst h1;exact h
 ·unfold fixed at h ⊢
  have uz:Nat.beq i j=false:=by
   cases h:Nat.beq i j with
   |false=>rfl
   |true=>have:=Nat.eq_of_beq_eq_true h;omega
  have h2:Nat.beq j i=false:=by
   cases h:Nat.beq j i with
   |false=>rfl
   |true=>have:=Nat.eq_of_beq_eq_true h;omega
  have h3:Nat.blt j i=true:=by rw [Nat.blt_eq];exact h1
  have h4:Nat.blt i j=false:=by
   cases h:Nat.blt i j with
   |false=>rfl
   |true=>rw [Nat.blt_eq] at h;omega
  rw [uz,h4] at h
  rw [h2,h3]
  simpa using h
theorem wY {x y:Reach} {b:Nat} (hx:bG x b) (hy:bG y b):x.meets y=true:=by
 cases x with
 |none=>cases y with
  |none=>rfl
  |some l=>cases l with
   |nil=>simp [bG] at hy
   |cons c l=>rfl
 |some l=>cases l with
  |nil=>simp [bG] at hx
  |cons c l=>cases y with
   |none=>rfl
   |some m=>cases m with
    |nil=>simp [bG] at hy
    |cons d m=>
     simp only [Reach.meets,List.any_eq_true]
     exact ⟨b,hx,by simpa [bG] using hy⟩
def Wr (f:Nat→de) (b k:Nat):Prop:=bG (f k).w b∨((f k).lo≤b∧b<(f k).hi)
theorem qu {x y:de} {b:Nat} (hx:bG x.w b) (hy:bG y.t b∨bG y.w b∨(y.lo≤b∧b<y.hi)):x.fF y=true:=by
 unfold de.fF
 simp only [Bool.or_eq_true]
 rcases hy with hy|hy|⟨h1,h2⟩
 ·exact .inl (.inl (wY hx hy))
 ·exact .inl (.inr (wY hx hy))
 ·refine .inr ?_
  cases hw:x.w with
  |none=>simp only [Nat.blt_eq];omega
  |some l=>
   rw [hw] at hx
   simp only [List.any_eq_true,Bool.and_eq_true,Nat.ble_eq,Nat.blt_eq]
   exact ⟨b,hx,h1,h2⟩
theorem sC {ρ:Operand→Value} {o:Op} {wr:Bool} {b:Nat} (h:bG (writes ρ o wr) b):bG (ag ρ o) b:=by
 unfold writes at h
 split at h
 ·simp [bG] at h
 ·cases o<;>simp only [bA,ag] at h ⊢ <;>first|exact h|(simp [bG] at h;done)|skip
  case call c=>
   split at h
   ·rename_i bi hb
    split at h
    ·rename_i x xs hx
     simp only [bG] at h ⊢
     rw [hx]
     simp [h]
    ·simp [bG] at h
   ·rename_i hn
    first
     |trivial
     |(
      split
      ·rename_i bi hb;exact absurd hb (hn bi)
      ·trivial)
theorem Canon.SN (C:Canon ng T B P ops F f) {k j:Nat} {ok oj:Oper} {t:Tmp} (hk:ops[k]? =some ok) (hd:ok.dst=some t) (hj:ops[j]? =some oj) (h:t∈looks ops oj∨oj.dst=some t):
  fixed (iR [] ops.toList) k j=true:=by
 have h1:=C.tmps
 unfold zf at h1
 rw [List.all_eq_true] at h1
 have mem: ∀ {k o},ops[k]? =some o→(o,k)∈ops.toList.zipIdx:=fun {k o} h=>by
  rw [List.mem_zipIdx_iff_getElem?];simpa using h
 have h2:=h1 _ (mem hk)
 simp only [hd,List.all_eq_true] at h2
 have h3:=h2 _ (mem hj)
 simp only [Bool.or_eq_true,Bool.and_eq_true,Bool.not_eq_true'] at h3
 rcases h3 with ⟨h4,h5⟩|h3
 ·rcases h with h|h
  ·simp [h] at h4
  ·simp [h] at h5
 ·exact h3
end Go.Vm
end
noncomputable section
namespace Go.Vm
open Go
variable {ng:Nat} {T:Types} {B:Nat} {ι₀ ι ι₁ ι' ua:bN} {s s₁ s' tR:St} {w₀ w w₁ w' w'':World} {P:Program} {ops:Array Oper} {F:Nat→Fr} {f:Nat→de} {L:Nat→Prop} {a a₀:Act} {c q:Nat→Nat}
structure kT (ng:Nat) (T:Types) (B:Nat) (ops:Array Oper) (F:Nat→Fr) (f:Nat→de) (ι₀:bN) (w₀:World) (a₀:Act) (L:Nat→Prop) (c q:Nat→Nat) (ι:bN) (a:Act) (w:World):Prop where
 Ck: ∀k,L k→k<ops.size
 cw: ∀b k,L k→Wr f b k→k<c b
 cs: ∀b,c b=0∨ ∃k,L k∧Wr f b k∧c b=k+1
 qw: ∀t k o,L k→ops[k]? =some o→o.dst=some t→k<q t
 qs: ∀t,q t=0∨ ∃k o,L k∧ops[k]? =some o∧o.dst=some t∧q t=k+1
 Nf:ι₀.le ι
 zy: ∀b i,ι b=some i→ι₀ b=some i∨ ∃k,L k∧(f k).lo≤b∧b<(f k).hi
 obj: ∀b o i,ι b=some i→(F (c b)).s.h.get b=some o→eU ng T (ι.cut (F (c b)).s.n) B o i w
 inj: ∀b b' o o' i i',ι b=some i→ι b'=some i'→(F (c b)).s.h.get b=some o→(F (c b')).s.h.get b'=some o'→live o=true→live o'=true→i.r=i'.r→b=b'
 size:a.tmps.size=(F 0).nt
 env: ∀t,bj (ι.cut (F (q t)).s.n) (ev (F (q t)).e (.tmp t)) (a.tmps.getD t undef)
 defers:a.defers=a₀.defers
 base:B≤w.heap.size
 grow:w₀.heap.size≤w.heap.size
 mY: ∀r,r<w₀.heap.size→(∀b i o,ι₀ b=some i→(F 0).s.h.get b=some o→live o=true→(F ops.size).s.wm≤b→i.r≠r)→w.heap[r]? =w₀.heap[r]?
 jW: ∀b i o,ι b=some i→(F (c b)).s.h.get b=some o→live o=true→w₀.heap.size≤i.r∨
  ∃b₀ i₀ o₀,ι₀ b₀=some i₀∧(F 0).s.h.get b₀=some o₀∧live o₀=true∧i₀.r=i.r∧(b₀=b∨(F ops.size).s.wm≤b₀)
 out:w.os=w₀.os∧w.output=w₀.output
def Inv (ng:Nat) (T:Types) (B:Nat) (ops:Array Oper) (F:Nat→Fr) (f:Nat→de) (ι₀:bN) (w₀:World) (a₀:Act) (L:Nat→Prop) (ι:bN) (a:Act) (w:World):Prop:= ∃c q,kT ng T B ops F f ι₀ w₀ a₀ L c q ι a w
theorem Inv.start (h0:fa ng T B ι₀ (F 0) a₀ w₀) (hw:w.heap=w₀.heap) (hO:w.os=w₀.os∧w.output=w₀.output:=by exact ⟨rfl,rfl⟩):Inv ng T B ops F f ι₀ w₀ a₀ (fun _=>False) ι₀ a₀ w:=by
 have Ht: ∀b i,ι₀ b=some i→ι₀.cut (F 0).s.n b=some i:=fun b i h=>bN.nB h (h0.lz.lt b i h)
 refine ⟨fun _=>0,fun _=>0,⟨fun k h=>h.elim,fun b k h=>h.elim,fun b=> .inl rfl,fun t k o h=>h.elim,fun t=> .inl rfl,bN.le_refl _,fun b i h=> .inl h,fun b o i hi ho=> ?_,fun b b' o o' i i' hi hi' ho mC hl fg e=> ?_,h0.env.size,fun t=>(h0.env.rel t).mono Ht,rfl,by rw [hw];exact h0.lz.base,by rw [hw];exact Nat.le_refl _,fun r _ _=>by rw [hw],fun b i o hi ho hl=> ?_,hO⟩⟩
 ·exact (h0.lz.obj b o i ⟨i,hi⟩ ho hi).keep Ht (by rw [hw])
 ·exact h0.lz.inj b b' o o' i i' ⟨i,hi⟩ ⟨i',hi'⟩ ho mC hl fg hi hi' e
 ·exact .inr ⟨b,i,o,hi,ho,hl,rfl,.inl rfl⟩
theorem kT.TH (I:kT ng T B ops F f ι₀ w₀ a₀ L c q ι a w) (b:Nat):c b≤ops.size:=by
 rcases I.cs b with h|⟨k,h1,_,h3⟩
 ·omega
 ·have:=I.Ck k h1;omega
theorem kT.qle (I:kT ng T B ops F f ι₀ w₀ a₀ L c q ι a w) (t:Nat):q t≤ops.size:=by
 rcases I.qs t with h|⟨k,_,h1,_,_,h3⟩
 ·omega
 ·have:=I.Ck k h1;omega
theorem kT.cb (C:Canon ng T B P ops F f) (h0:fa ng T B ι₀ (F 0) a₀ w₀) (I:kT ng T B ops F f ι₀ w₀ a₀ L c q ι a w) {b:Nat} {i:lC} (h:ι b=some i):b<(F (c b)).s.n:=by
 rcases I.zy b i h with h|⟨k,h1,h2,h3⟩
 ·exact Nat.lt_of_lt_of_le (h0.lz.lt b i h) (C.vn (Nat.zero_le _) (I.TH b)).n
 ·have h4:=I.cw b k h1 (.inr ⟨h2,h3⟩)
  have h5:=C.facts (I.Ck k h1)
  have h6:=(C.vn (show k+1≤c b by omega) (I.TH b)).n
  omega
theorem Inv.finish (C:Canon ng T B P ops F f) (h0:fa ng T B ι₀ (F 0) a₀ w₀) (I:Inv ng T B ops F f ι₀ w₀ a₀ L ι a w) (hL: ∀k,k<ops.size→L k):
  bH ng T B ι₀ (Full ι₀) (F 0).s w₀ ι (F ops.size).s w∧fa ng T B ι (F ops.size) a w:=by
 obtain ⟨c,q,I⟩:=I
 have hconst: ∀b i,ι b=some i→(F ops.size).s.h.get b=(F (c b)).s.h.get b:=fun b i hi=>
  C.const (I.TH b) (Nat.le_refl _) (I.cb C h0 hi) fun k h1 h2 h3=>by
   have:=I.cw b k (hL k h2) (.inl h3);omega
 have hlt: ∀b i,ι b=some i→b<(F ops.size).s.n:=fun b i hi=>Nat.lt_of_lt_of_le (I.cb C h0 hi) (C.vn (I.TH b) (Nat.le_refl _)).n
 have Qv: ∀b o i,ι b=some i→(F ops.size).s.h.get b=some o→eU ng T ι B o i w:=fun b o i hi ho=>
  (I.obj b o i hi (by rw [←hconst b i hi];exact ho)).keep (bN.C8 _ _) rfl
 have yC: ∀b b' o o' i i',ι b=some i→ι b'=some i'→(F ops.size).s.h.get b=some o→(F ops.size).s.h.get b'=some o'→live o=true→live o'=true→i.r=i'.r→b=b':=
  fun b b' o o' i i' hi hi' ho mC hl fg e=>I.inj b b' o o' i i' hi hi' (by rw [←hconst b i hi];exact ho) (by rw [←hconst b' i' hi'];exact mC) hl fg e
 have hv:=C.vn (Nat.zero_le ops.size) (Nat.le_refl _)
 have hnt:=C.Rt (Nat.le_refl ops.size)
 refine ⟨⟨I.Nf,fun b i hi=> ?_,⟨fun b o i _ ho hi=>Qv b o i hi ho,fun b b' o o' i i' _ _ ho mC hl fg hi hi' e=>yC b b' o o' i i' hi hi' ho mC hl fg e,hlt,I.base⟩,hv.n,aV.wm hv,fun b hb hm=> ?_,fun r hr hno=> ?_,fun b i o _ hi ho hl=> ?_,I.grow,I.out⟩,
  ⟨fun b o i _ ho hi=>Qv b o i hi ho,fun b b' o o' i i' _ _ ho mC hl fg hi hi' e=>yC b b' o o' i i' hi hi' ho mC hl fg e,hlt,I.base⟩,h0.qg.mono I.Nf,⟨by rw [hnt.1];exact I.size,fun t=> ?_⟩,?_⟩
 ·rcases I.zy b i hi with h|⟨k,h1,h2,_⟩
  ·exact .inl h
  ·have h5:=(C.facts (I.Ck k h1)).1
   have h6:=(C.vn (Nat.zero_le k) (Nat.le_of_lt (I.Ck k h1))).n
   exact .inr (by omega)
 ·rcases aV.keep hv b hb with e|⟨_,h2⟩
  ·exact e
  ·omega
 ·exact I.mY r hr fun b i o hi ho hl hm=>hno b i o ⟨i,hi⟩ hi ho hl hm
 ·rcases I.jW b i o hi (by rw [←hconst b i hi];exact ho) hl with h|⟨b₀,i₀,o₀,h1,h2,h3,h4,h5⟩
  ·exact .inl h
  ·exact .inr ⟨b₀,i₀,o₀,⟨i₀,h1⟩,h1,h2,h3,h4,h5⟩
 ·have hE:ev (F ops.size).e (.tmp t)=ev (F (q t)).e (.tmp t):=C.Di (I.qle t) (Nat.le_refl _) fun k o h1 h2 ho hd=>by
   have:=I.qw t k o (hL k h2) ho hd;omega
  rw [hE]
  exact (I.env t).mono (bN.C8 _ _)
 ·rw [hnt.2,I.defers]
  exact h0.marks.mono I.Nf
end Go.Vm
end
noncomputable section
namespace Go.Vm
open Go
variable {ng:Nat} {T:Types} {B:Nat} {ι₀ ι ι₁ ι' ua:bN} {s s₁ s' tR:St} {w₀ w w₁ w' w'':World} {P:Program} {ops:Array Oper} {F:Nat→Fr} {f:Nat→de} {L:Nat→Prop} {a a₀:Act} {c q:Nat→Nat} {j:Nat} {o:Oper}
theorem order (hc:kq ops L) (hj:ops[j]? =some o) (nH: ¬L j) (he: ∀e∈o.after,Region.binds .any e=true→L e.on) {k:Nat} (hk:k<ops.size) (hne:k≠j) (hf:fixed (iR [] ops.toList) k j=true):
  (L k→k<j)∧(k<j→L k):=
 ⟨fun hL=>by
  rcases Nat.lt_trichotomy k j with h|h|h
  ·exact h
  ·exact absurd h hne
  ·obtain ⟨ok,hok⟩:=mA hk
   exact absurd (pV hc (rk _ hf) h hok (.inl hL)) nH,
  fun h=>pV hc hf h hj (.inr he)⟩
theorem gN (C:Canon ng T B P ops F f) (h0:fa ng T B ι₀ (F 0) a₀ w₀) (I:kT ng T B ops F f ι₀ w₀ a₀ L c q ι a w) (hc:kq ops L) (hj:ops[j]? =some o) (nH: ¬L j)
  (he: ∀e∈o.after,Region.binds .any e=true→L e.on) {b:Nat} {i:lC} (hi:ι b=some i) (hb:b<(F j).s.n) (ht:bG (f j).t b):c b≤j∧(F j).s.h.get b=(F (c b)).s.h.get b:=by
 have qm:j<ops.size:=(Array.getElem?_eq_some_iff.1 hj).1
 have hw: ∀k,k<ops.size→k≠j→bG (f k).w b→(L k→k<j)∧(k<j→L k):=fun k hk hne h=>
  order hc hj nH he hk hne (C.fF k j hk qm (qu h (.inl ht)))
 have hle:c b≤j:=by
  rcases I.cs b with h|⟨k,h1,h2,h3⟩
  ·omega
  ·have hne:k≠j:=fun e=>nH (e ▸ h1)
   have hks:=I.Ck k h1
   rcases h2 with h2|⟨h2,_⟩
   ·have:=(hw k hks hne h2).1 h1;omega
   ·have h4:=(C.facts hks).1
    rcases Nat.lt_or_ge k j with h5|h5
    ·omega
    ·have:=(C.vn h5 (Nat.le_of_lt hks)).n;omega
 refine ⟨hle,C.const hle (Nat.le_of_lt qm) (I.cb C h0 hi) fun k h1 h2 h3=> ?_⟩
 have:=I.cw b k ((hw k (by omega) (by omega) h3).2 h2) (.inl h3)
 omega
theorem JF (C:Canon ng T B P ops F f) (I:kT ng T B ops F f ι₀ w₀ a₀ L c q ι a w) (hc:kq ops L) (hj:ops[j]? =some o) (nH: ¬L j)
  (he: ∀e∈o.after,Region.binds .any e=true→L e.on) {t:Tmp} (ht:t∈looks ops o):bj (ι.cut (F j).s.n) (ev (F j).e (.tmp t)) (a.tmps.getD t undef):=by
 have qm:j<ops.size:=(Array.getElem?_eq_some_iff.1 hj).1
 have hw: ∀k ok,k≠j→ops[k]? =some ok→ok.dst=some t→(L k→k<j)∧(k<j→L k):=fun k ok hne hok hd=>
  order hc hj nH he (Array.getElem?_eq_some_iff.1 hok).1 hne (C.SN hok hd hj (.inl ht))
 have hle:q t≤j:=by
  rcases I.qs t with h|⟨k,ok,h1,h2,h3,h4⟩
  ·omega
  ·have hne:k≠j:=fun e=>nH (e ▸ h1)
   have:=(hw k ok hne h2 h3).1 h1;omega
 have hE:ev (F j).e (.tmp t)=ev (F (q t)).e (.tmp t):=C.Di hle (Nat.le_of_lt qm) fun k ok h1 h2 hok hd=>by
  have:=I.qw t k ok ((hw k ok (by omega) hok hd).2 h2) hok hd
  omega
 rw [hE]
 exact (I.env t).mono (bN.vZ _ (C.vn hle (Nat.le_of_lt qm)).n)
theorem CL (C:Canon ng T B P ops F f) (h0:fa ng T B ι₀ (F 0) a₀ w₀) (I:kT ng T B ops F f ι₀ w₀ a₀ L c q ι a w) (hc:kq ops L) (hj:ops[j]? =some o) (nH: ¬L j)
  (he: ∀e∈o.after,Region.binds .any e=true→L e.on):gW ng T (ι.cut (F j).s.n) (fun b=>bG (f j).t b) B (F j).s w:=by
 have qm:j<ops.size:=(Array.getElem?_eq_some_iff.1 hj).1
 refine ⟨fun b o' i hd ho hi=> ?_,fun b b' o₁ o₂ i i' hd gj ho mC hl fg hi hi' e=> ?_,fun b i hi=>(bN.en hi).1,I.base⟩
 ·obtain ⟨hb,hi⟩:=bN.en hi
  obtain ⟨h1,h2⟩:=gN C h0 I hc hj nH he hi hb hd
  exact (I.obj b o' i hi (by rw [←h2];exact ho)).keep (bN.vZ _ (C.vn h1 (Nat.le_of_lt qm)).n) rfl
 ·obtain ⟨hb,hi⟩:=bN.en hi
  obtain ⟨gY,hi'⟩:=bN.en hi'
  obtain ⟨_,h2⟩:=gN C h0 I hc hj nH he hi hb hd
  obtain ⟨_,yw⟩:=gN C h0 I hc hj nH he hi' gY gj
  exact I.inj b b' o₁ o₂ i i' hi hi' (by rw [←h2];exact ho) (by rw [←yw];exact mC) hl fg e
def bN.join (ι ι':bN):bN:=fun b=>match ι' b with
 |some i=>some i
 |none=>ι b
theorem bN.kF {b:Nat} {i:lC} (h:ι' b=some i):ι.join ι' b=some i:=by simp [bN.join,h]
theorem bN.pB {b:Nat} (h:ι' b=none):ι.join ι' b=ι b:=by simp [bN.join,h]
theorem Inv.next (C:Canon ng T B P ops F f) (h0:fa ng T B ι₀ (F 0) a₀ w₀) (I:kT ng T B ops F f ι₀ w₀ a₀ L c q ι a w) (hc:kq ops L) (hj:ops[j]? =some o) (nH: ¬L j)
  (he: ∀e∈o.after,Region.binds .any e=true→L e.on) {st:St} {v v':Value} (hsn:st.n=(F j).s.n) (hsh:st.h=(F j).s.h)
  (hp:put (F j) o.dst v { s₁ with wm:=min (F j).s.wm s₁.wm } =some (F (j+1))) (QU: ∀b,bG (f j).w b→bG (f j).t b)
  (hg:bH ng T B (ι.cut (F j).s.n) (fun b=>bG (f j).t b) st w ι' s₁ w') (hv:bj ι' v v'):
  Inv ng T B ops F f ι₀ w₀ a₀ (fun k=>L k∨k=j) (ι.join ι') (a.put o.dst v') w':=by
 classical
 have qm:j<ops.size:=(Array.getElem?_eq_some_iff.1 hj).1
 obtain ⟨flo,fhi,fvf,Pq,fnt,fms,fev⟩:=C.facts qm
 have wP:=AA hp
 have lY:(F (j+1)).s.n=s₁.n:=by rw [wP]
 have XL:(F (j+1)).s.h=s₁.h:=by rw [wP]
 have Yp:(F ops.size).s.wm≤s₁.wm:=by
  have h1:=aV.wm (C.vn (show j+1≤ops.size by omega) (Nat.le_refl _))
  have h2:(F (j+1)).s.wm=min (F j).s.wm s₁.wm:=by rw [wP]
  omega
 have fC:=CL C h0 I hc hj nH he
 have P8: ∀b i,ι b=some i→ ¬((F j).s.n≤b∧b<(F (j+1)).s.n):=by
  intro b i hi ⟨h1,h2⟩
  rcases I.zy b i hi with h|⟨k,k1,k2,k3⟩
  ·have:=h0.lz.lt b i h
   have:=(C.vn (Nat.zero_le j) (Nat.le_of_lt qm)).n
   omega
  ·have hne:k≠j:=fun e=>nH (e ▸ k1)
   have hk:=C.facts (I.Ck k k1)
   rcases Nat.lt_or_ge k j with h5|h5
   ·have:=(C.vn (show k+1≤j by omega) (Nat.le_of_lt qm)).n;omega
   ·have:=(C.vn (show j+1≤k by omega) (Nat.le_of_lt (I.Ck k k1))).n;omega
 have ot: ∀b i,ι' b=some i→b<(F (j+1)).s.n:=fun b i h=>by rw [lY];exact hg.lz.lt b i h
 have IP: ∀b i,ι' b=some i→b<(F j).s.n→ι b=some i:=fun b i h hb=>by
  rcases hg.zy b i h with h1|h1
  ·exact (bN.en h1).2
  ·omega
 have Ai: ∀b i,ι b=some i→b<(F j).s.n→ι' b=some i:=fun b i h hb=>hg.le b i (bN.nB h hb)
 have hle:ι.le (ι.join ι'):=fun b i h=>by
  cases h':ι' b with
  |none=>rw [bN.pB h'];exact h
  |some i'=>
   rw [bN.kF h']
   have hb:=ot b i' h'
   rcases Nat.lt_or_ge b (F j).s.n with h2|h2
   ·have:=IP b i' h' h2;rw [h] at this;exact this.symm
   ·exact absurd ⟨h2,hb⟩ (P8 b i h)
 have K0:ι'.le (ι.join ι'):=fun b i h=>bN.kF h
 have II:ι'.le ((ι.join ι').cut (F (j+1)).s.n):=fun b i h=>bN.nB (K0 b i h) (ot b i h)
 have uH: ∀b i,(ι.join ι') b=some i→ ¬((F j).s.n≤b∧b<(F (j+1)).s.n)→ι b=some i:=fun b i h hn=>by
  cases h':ι' b with
  |none=>rw [bN.pB h'] at h;exact h
  |some i'=>
   rw [bN.kF h'] at h
   cases h
   have hb:=ot b _ h'
   exact IP b _ h' (by omega)
 have KU: ∀b i,(ι.join ι') b=some i→((F j).s.n≤b∧b<(F (j+1)).s.n)→ι' b=some i:=fun b i h hn=>by
  cases h':ι' b with
  |none=>rw [bN.pB h'] at h;exact absurd hn (P8 b i h)
  |some i'=>rw [bN.kF h'] at h;exact h
 have An: ∀b k,L k→Wr f b j→Wr f b k→k<j:=by
  intro b k hk h1 h2
  have hks:=I.Ck k hk
  have hne:k≠j:=fun e=>nH (e ▸ hk)
  have J8:fixed (iR [] ops.toList) k j=true→k<j:=fun h=>(order hc hj nH he hks hne h).1 hk
  rcases h2 with h2|h2
  ·rcases h1 with h1|h1
   ·exact J8 (C.fF k j hks qm (qu h2 (.inr (.inl h1))))
   ·exact J8 (C.fF k j hks qm (qu h2 (.inr (.inr h1))))
  ·rcases h1 with h1|h1
   ·exact J8 (rk _ (C.fF j k qm hks (qu h1 (.inr (.inr h2)))))
   ·have h5:=C.facts hks
    rcases Nat.lt_or_ge k j with h6|h6
    ·exact h6
    ·have:=(C.vn (show j+1≤k by omega) (Nat.le_of_lt hks)).n;omega
 have IX: ∀b i,(ι.join ι') b=some i→Wr f b j→ι' b=some i∧(bG (f j).t b∨st.n≤b)∧b<(F (j+1)).s.n:=by
  intro b i hi hw
  by_cases hn:(F j).s.n≤b∧b<(F (j+1)).s.n
  ·exact ⟨KU b i hi hn,.inr (by omega),hn.2⟩
  ·have DY:=uH b i hi hn
   rcases hw with hw|hw
   ·rcases Nat.lt_or_ge b (F j).s.n with h2|h2
    ·exact ⟨Ai b i DY h2,.inl (QU b hw),by have:=fvf.n;omega⟩
    ·exfalso
     rcases I.zy b i DY with h|⟨k,k1,k2,k3⟩
     ·have:=h0.lz.lt b i h
      have:=(C.vn (Nat.zero_le j) (Nat.le_of_lt qm)).n
      omega
     ·have h3:=An b k k1 (.inl hw) (.inr ⟨k2,k3⟩)
      have h4:=C.facts (I.Ck k k1)
      have:=(C.vn (show k+1≤j by omega) (Nat.le_of_lt qm)).n
      omega
   ·exact absurd (by omega) hn
 have DK: ∀b i,ι b=some i→b<(F (c b)).s.n:=fun b i hi=>I.cb C h0 hi
 let c':Nat→Nat:=fun b=>if Wr f b j then j+1 else c b
 let q':Nat→Nat:=fun t=>if o.dst=some t then j+1 else q t
 have ll: ∀ {b},Wr f b j→c' b=j+1:=fun {b} h=>by simp [c',h]
 have qG: ∀ {b},¬Wr f b j→c' b=c b:=fun {b} h=>by simp [c',h]
 have QO: ∀b i,(ι.join ι') b=some i→ ¬Wr f b j→ι b=some i:=fun b i hi hw=>uH b i hi fun hn=>hw (.inr (by omega))
 have fe: ∀b i,ι b=some i→ ¬Wr f b j→bG (f j).t b→b<(F j).s.n→c b≤j∧s₁.h.get b=(F (c b)).s.h.get b:=fun b i hi hw ht hb=>by
  obtain ⟨h1,h2⟩:=gN C h0 I hc hj nH he hi hb ht
  refine ⟨h1,?_⟩
  rw [←XL,Pq b hb (fun h=>hw (.inl h)),h2]
 have Kq: ∀b i o',ι b=some i→(F (c b)).s.h.get b=some o'→ ¬(bG (f j).t b∧b<(F j).s.n)→(o'= .dead∨w'.heap[i.r]? =w.heap[i.r]?):=by
  intro b i o' hi ho hn
  have oP:=I.obj b o' i hi ho
  have key:i.r<w.heap.size→(live o'=false→i.r<B)→w'.heap[i.r]? =w.heap[i.r]? :=fun hr hB=>by
   refine hg.mY _ hr fun b₁ i₁ o₁ KE Cf IS M1 _ e=> ?_
   have X2:=fC.obj b₁ o₁ i₁ KE (by rw [←hsh];exact IS) Cf
   have hB₁:=(X2.lt M1).1
   cases hl:live o' with
   |false=>have:=hB hl;omega
   |true=>
    obtain ⟨MZ,DZ⟩:=bN.en Cf
    obtain ⟨_,h2⟩:=gN C h0 I hc hj nH he DZ MZ KE
    have:=I.inj b₁ b o₁ o' i₁ i DZ hi (by rw [←h2,←hsh];exact IS) ho M1 hl e
    subst this
    exact hn ⟨KE,MZ⟩
  cases o' with
  |dead=>exact .inl rfl
  |cells cs e sl own=>exact .inr (key oP.there fun h=>oP.Ce (by simpa [live] using h))
  |map es own=>
   obtain ⟨ms,cl,hm,_⟩:=oP.there
   exact .inr (key (Array.getElem?_eq_some_iff.1 hm).1 fun h=>oP.Ce (by simpa [live] using h))
  |loop r=>exact .inr (key (oP.lt rfl).2 fun h=>by simp [live] at h)
  |defs=>exact .inr (key (oP.lt rfl).2 fun h=>by simp [live] at h)
 have Ej: ∀b i o',(ι.join ι') b=some i→(F (c' b)).s.h.get b=some o'→
   (ι' b=some i∧(bG (f j).t b∨st.n≤b)∧s₁.h.get b=some o')∨(ι b=some i∧ ¬Wr f b j∧(F (c b)).s.h.get b=some o'∧ ¬(bG (f j).t b∧b<(F j).s.n)):=by
  intro b i o' hi ho
  by_cases hw:Wr f b j
  ·rw [ll hw,XL] at ho
   obtain ⟨h1,h2,_⟩:=IX b i hi hw
   exact .inl ⟨h1,h2,ho⟩
  ·rw [qG hw] at ho
   have DY:=QO b i hi hw
   by_cases ht:bG (f j).t b∧b<(F j).s.n
   ·obtain ⟨_,h2⟩:=fe b i DY hw ht.1 ht.2
    exact .inl ⟨Ai b i DY ht.2,.inl ht.1,by rw [h2];exact ho⟩
   ·exact .inr ⟨DY,hw,ho,ht⟩
 refine ⟨c',q',⟨fun k hk=>hk.elim (I.Ck k) (fun e=>e ▸ qm),fun b k hk hw=> ?_,fun b=> ?_,fun t k ok hk hok hd=> ?_,fun t=> ?_,bN.le_trans I.Nf hle,fun b i hi=> ?_,fun b o' i hi ho=> ?_,fun b b' o₁ o₂ i i' hi hi' ho mC hl fg e=> ?_,?_,fun t=> ?_,?_,hg.lz.base,by have:=I.grow;have:=hg.size;omega,fun r hr hno=> ?_,fun b i o' hi ho hl=> ?_,hg.out.1.trans I.out.1,hg.out.2.trans I.out.2⟩⟩
 ·
  rcases hk with hk|rfl
  ·by_cases Ls:Wr f b j
   ·rw [ll Ls];have:=An b k hk Ls hw;omega
   ·rw [qG Ls];exact I.cw b k hk hw
  ·rw [ll hw];omega
 ·
  by_cases Ls:Wr f b j
  ·exact .inr ⟨j,.inr rfl,Ls,ll Ls⟩
  ·rw [qG Ls]
   exact (I.cs b).imp id fun ⟨k,h1,h2⟩=>⟨k,.inl h1,h2⟩
 ·
  rcases hk with hk|rfl
  ·by_cases Cc:o.dst=some t
   ·have hne:k≠j:=fun e=>nH (e ▸ hk)
    have:=(order hc hj nH he (I.Ck k hk) hne (C.SN hok hd hj (.inr Cc))).1 hk
    simp only [q',Cc,if_true];omega
   ·simp only [q',if_neg Cc];exact I.qw t k ok hk hok hd
  ·rw [hj] at hok;cases hok
   simp [q',hd]
 ·
  by_cases Cc:o.dst=some t
  ·exact .inr ⟨j,o,.inr rfl,hj,Cc,by simp [q',Cc]⟩
  ·simp only [q',if_neg Cc]
   exact (I.qs t).imp id fun ⟨k,ok,h1,h2⟩=>⟨k,ok,.inl h1,h2⟩
 ·
  by_cases hn:(F j).s.n≤b∧b<(F (j+1)).s.n
  ·exact .inr ⟨j,.inr rfl,by omega,by omega⟩
  ·exact (I.zy b i (uH b i hi hn)).imp id fun ⟨k,h1,h2⟩=>⟨k,.inl h1,h2⟩
 ·
  by_cases hw:Wr f b j
  ·rw [ll hw] at ho ⊢
   obtain ⟨h1,h2,_⟩:=IX b i hi hw
   exact (hg.lz.obj b o' i h2 (by rw [←XL];exact ho) h1).keep II rfl
  ·rw [qG hw] at ho ⊢
   have DY:=QO b i hi hw
   have oP:=I.obj b o' i DY ho
   have IM:=bN.qZ hle (F (c b)).s.n
   by_cases ht:bG (f j).t b∧b<(F j).s.n
   ·obtain ⟨h1,h2⟩:=fe b i DY hw ht.1 ht.2
    have X1:=hg.lz.obj b o' i (.inl ht.1) (by rw [h2];exact ho) (Ai b i DY ht.2)
    have Eg:(ι.cut (F (c b)).s.n).le ι':=fun x y hxy=>by
     obtain ⟨k1,k2⟩:=bN.en hxy
     exact Ai x y k2 (Nat.lt_of_lt_of_le k1 (C.vn h1 (Nat.le_of_lt qm)).n)
    exact (oP.narrow Eg X1).keep IM rfl
   ·rcases Kq b i o' DY ho ht with rfl|hr
    ·trivial
    ·exact oP.keep IM hr
 ·
  rcases Ej b i o₁ hi ho with ⟨h1,h2,h3⟩|⟨h1,h2,h3,h4⟩<;>rcases Ej b' i' o₂ hi' mC with ⟨k1,k2,k3⟩|⟨k1,k2,k3,k4⟩
  ·exact hg.lz.inj b b' o₁ o₂ i i' h2 k2 h3 k3 hl fg h1 k1 e
  ·exfalso
   have hlt:=((I.obj b' o₂ i' k1 k3).lt fg).2
   rcases hg.jW b i o₁ h2 h1 h3 hl with h5|⟨b₂,i₂,Zo,d1,d2,d3,d4,d5,_⟩
   ·omega
   ·obtain ⟨e1,e2⟩:=bN.en d2
    obtain ⟨_,e3⟩:=gN C h0 I hc hj nH he e2 e1 d1
    have:=I.inj b₂ b' Zo o₂ i₂ i' e2 k1 (by rw [←e3,←hsh];exact d3) k3 d4 fg (by omega)
    subst this
    exact k4 ⟨d1,e1⟩
  ·exfalso
   have hlt:=((I.obj b o₁ i h1 h3).lt hl).2
   rcases hg.jW b' i' o₂ k2 k1 k3 fg with h5|⟨b₂,i₂,Zo,d1,d2,d3,d4,d5,_⟩
   ·omega
   ·obtain ⟨e1,e2⟩:=bN.en d2
    obtain ⟨_,e3⟩:=gN C h0 I hc hj nH he e2 e1 d1
    have:=I.inj b₂ b Zo o₁ i₂ i e2 h1 (by rw [←e3,←hsh];exact d3) h3 d4 hl (by omega)
    subst this
    exact h4 ⟨d1,e1⟩
  ·exact I.inj b b' o₁ o₂ i i' h1 k1 h3 k3 hl fg e
 ·
  have:=I.size
  unfold Act.put
  split<;>simp [this]
 ·
  by_cases Cc:o.dst=some t
  ·simp only [q',Cc,if_true]
   rw [Cc] at hp
   unfold put at hp
   simp only [] at hp
   split at hp
   ·rename_i hd
    rw [Nat.blt_eq] at hd
    simp at hp
    rw [←hp]
    have hsz:t<a.tmps.size:=by rw [I.size,←(C.Rt (Nat.le_of_lt qm)).1];exact hd
    have e1:({ a with tmps:=a.tmps.setIfInBounds t v' } :Act).tmps.getD t undef=v':=by simp [Array.getD,hsz]
    have bZ:=hv.mono II
    rw [←hp] at bZ
    simp only [Act.put,e1]
    simpa [ev,Tr.aQ] using bZ
   ·cases hp
  ·simp only [q',if_neg Cc]
   have e1:(a.put o.dst v').tmps.getD t undef=a.tmps.getD t undef:=by
    unfold Act.put
    split
    ·rename_i d hd
     have hne:d≠t:=fun e=>Cc (by rw [hd,e])
     simp only [Array.getD_eq_getD_getElem?]
     rw [Array.getElem?_setIfInBounds_ne hne]
    ·rfl
   rw [e1]
   exact (I.env t).mono (bN.qZ hle _)
 ·
  rw [←I.defers]
  unfold Act.put
  split<;>rfl
 ·
  rw [←I.mY r hr hno]
  refine hg.mY r (by have:=I.grow;omega) fun b₁ i₁ o₁ KE Cf IS M1 hm e=> ?_
  obtain ⟨MZ,DZ⟩:=bN.en Cf
  obtain ⟨_,h2⟩:=gN C h0 I hc hj nH he DZ MZ KE
  rcases I.jW b₁ i₁ o₁ DZ (by rw [←h2,←hsh];exact IS) M1 with h3|⟨b₂,i₂,o₂,d1,d2,d3,d4,d5⟩
  ·omega
  ·refine hno b₂ i₂ o₂ d1 d2 d3 ?_ (by omega)
   rcases d5 with rfl|d5
   ·omega
   ·exact d5
 ·
  rcases Ej b i o' hi ho with ⟨h1,h2,h3⟩|⟨h1,h2,h3,h4⟩
  ·rcases hg.jW b i o' h2 h1 h3 hl with h5|⟨b₂,i₂,o₂,d1,d2,d3,d4,d5,d6⟩
   ·exact .inl (by have:=I.grow;omega)
   ·obtain ⟨e1,e2⟩:=bN.en d2
    obtain ⟨_,e3⟩:=gN C h0 I hc hj nH he e2 e1 d1
    rcases I.jW b₂ i₂ o₂ e2 (by rw [←e3,←hsh];exact d3) d4 with h6|⟨b₃,i₃,o₃,g1,g2,g3,g4,g5⟩
    ·exact .inl (by omega)
    ·refine .inr ⟨b₃,i₃,o₃,g1,g2,g3,by omega,?_⟩
     rcases g5 with rfl|g5
     ·rcases d6 with rfl|d6
      ·exact .inl rfl
      ·exact .inr (by omega)
     ·exact .inr g5
  ·exact I.jW b i o' h1 h3 hl
end Go.Vm
end
