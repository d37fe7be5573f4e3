/-
  A part of the proof of PromiseBytes: lemmas, in short letters, printed by a program out of the longer texts; conditions: those that each lemma names.
-/
import Derived.Test.YtalmddmghdinkaaGreatDoorH
set_option linter.all false
set_option linter.deprecated false
noncomputable section
namespace Go.Vm.X
open Go
variable {Z Z':Nat→Prop} {h h':Tr eI} {κ κ':cd} {ng:Nat} {s s₁ s₂ s₃:S} {s' bF vH:St} {κ₂ κ₃:cd} {Z₀ Z₂ Z₃:Nat→Prop} {T:Types} {fr ic:F} {fr' ei:Fr}
theorem yb {c:Call} {ρ:Operand→V} {ρ':Operand→Value} {f:Nat} {args:List V} (hr:dG T c ρ s=some (.call f args,s₂)) {g:Operand} (hc:c.callee= .value g) (hρ: ∀x∈c.operands,R Z h κ (ρ x) (ρ' x)):
  s₂=s∧ ∃args',Vm.dG T c ρ' s'=some (.call f args',s')∧Rs Z h κ args args':=by
 have hargs:Rs Z h κ (c.args.toList.map ρ) (c.args.toList.map ρ'):=Rs.map fun x hx=>hρ x (by
  unfold Call.operands
  split<;>simp_all)
 have bX:=hρ g (by unfold Call.operands;simp [hc])
 unfold dG at hr
 unfold Vm.dG
 simp only [hc] at hr ⊢
 split at hr
 ·rename_i g' first captured hg
  simp only [Option.some.injEq,Prod.mk.injEq,gf.call.injEq] at hr
  obtain ⟨⟨rfl,rfl⟩,rfl⟩:=hr
  rw [hg] at bX
  generalize yz:ρ' g=f' at bX
  cases bX with
  |fn _ _ _ _ a' b' ha hb=>exact ⟨rfl,_,rfl,ha.append (hargs.append hb)⟩
 ·cases hr
 ·cases hr
theorem xn {c:Call} {ρ:Operand→V} {ρ':Operand→Value} {l:Nat} {args:List V} (hr:dG T c ρ s=some (.round l args,s₂)) {g:Operand} (hc:c.callee= .value g) (hρ: ∀x∈c.operands,R Z h κ (ρ x) (ρ' x)):
  s₂=s∧ ∃l' args',κ l=some l'∧Vm.dG T c ρ' s'=some (.round l' args',s')∧Rs Z h κ args args':=by
 have hargs:Rs Z h κ (c.args.toList.map ρ) (c.args.toList.map ρ'):=Rs.map fun x hx=>hρ x (by
  unfold Call.operands
  split<;>simp_all)
 have bX:=hρ g (by unfold Call.operands;simp [hc])
 unfold dG at hr
 unfold Vm.dG
 simp only [hc] at hr ⊢
 split at hr
 ·cases hr
 ·rename_i l₁ hg
  simp only [Option.some.injEq,Prod.mk.injEq,gf.round.injEq] at hr
  obtain ⟨⟨rfl,rfl⟩,rfl⟩:=hr
  rw [hg] at bX
  generalize yz:ρ' g=f' at bX
  cases bX with
  |yield _ _ d hb=>exact ⟨rfl,d,_,hb,rfl,hargs⟩
 ·cases hr
theorem J3 (hg:Gl ng κ) {e:Tr V} {e':Tr Value} (he:mJ Z h κ e e') {o:Op} (ho:o.operands.toList.all (ld ng)=true): ∀x∈o.operands,R Z h κ (ev e x) (Vm.ev e' x):=by
 intro x hx
 rw [List.all_eq_true] at ho
 exact he.ev hg (ho x (by simpa using hx))
theorem zc {K:Nat→Bool} {rec:Rec} {cL:Vm.Rec} (hrun:CB ng rec cL) (eY:vK ng rec cL) (nI:xW ng rec cL) {ops:Array Oper} {dr:Bool} {fl:List Fl} {og:List de} {o:Oper} {l:List Oper}
  (bX:qQ ng κ Z fr fr') (hop:gk ng o=true) (hok:l.all (gk ng)=true) (hfl:dr=true→jt κ Z fr.s.n fr'.s.n fl og∧ZI κ Z fl) {r:ep} (hr:dV K T rec ops dr fl o l fr=some r):
  ∃ic κ₂ Z₂ ei,r= .code .normal ic∧Vm.dV T cL ops dr og o l fr'=some (.code .normal ei)∧Ext κ Z fr.s fr'.s κ₂ Z₂ ic.s ei.s∧qQ ng κ₂ Z₂ ic ei:=by
 have hρ:=J3 bX.sm.gl bX.env hop
 have xU:=bX.sm.wm
 have UH:Sm ng κ Z { fr.s with wm:=fr.s.n } { fr'.s with wm:=fr'.s.n } :=bX.sm.Ja (Nat.le_refl _) (Nat.le_refl _)
 have Km: ∀c,Z c→Z c:=fun _ h=>h
 have Xa: ∀c,Z c→Zb κ Z [] c:=fun _ h=> .inl h
 unfold dV at hr
 unfold Vm.dV
 split at hr
 ·cases hr
 ·
  rename_i v s₂ lv
  obtain ⟨κ₂,r',bF,h1,h2,h3,h4⟩:=ym UH lv hρ
  cases h4 with
  |val _ w hv=>
   simp only [h1]
   have HL:=fun hw=>wrote lv hw hρ
   rw [oX] at hr
   refine finish hrun bX hok hfl Km Xa (s₁:= { fr.s with wm:=fr.s.n }) rfl h2.1 h3 hv (xG lv hρ) (wV:=Vm.writes (Vm.ev fr'.e) o.op) (fun b b' hb xO=> ?_) (fun _=> .inr fun _ h=>h) (fun ws ko b hb=> ?_) (fun hlt=> ?_) hr
   ·cases b' with
    |false=>exact .inl rfl
    |true=>
     have DJ:=xO rfl
     subst DJ
     have hlt:s₂.wm<fr.s.n:=by rw [←Nat.blt_eq];exact hb.symm
     obtain ⟨b₁,c₁,k1,k2,k3,_⟩:=HL hlt
     refine .inr (.inr ⟨[b₁], [c₁],by simp only [writes];exact k1,by simp only [Vm.writes];exact k2,fun c hc=>⟨b₁,by simp,?_⟩⟩)
     simp only [List.mem_singleton] at hc
     subst hc;exact k3
   ·cases hx:Nat.blt s₂.wm fr.s.n with
    |false=>
     rw [hx] at ko
     simp only [writes,Option.some.injEq] at ko
     subst ko;cases hb
    |true=>
     rw [hx] at ko
     have hlt:s₂.wm<fr.s.n:=by rw [←Nat.blt_eq];exact hx
     obtain ⟨b₁,c₁,k1,k2,k3,ob,k4,k5⟩:=HL hlt
     simp only [writes] at ko
     rw [k1] at ko
     cases ko
     simp only [List.mem_singleton] at hb
     subst hb
     exact ⟨(bX.sm.lt _ _ k3).1,fun c hc=>bX.sm.sep _ ob c k4 k5 hc⟩
   ·rcases h2.2 with h5|h5
    ·simp only [] at h5;omega
    ·exact .inr h5
 ·
  rename_i f args s₂ lv
  obtain ⟨hs,c,g,wL,Ky⟩:=calls lv (fun v h=>by cases h)
  subst hs
  have KH:dG T c (ev fr.e) { fr.s with wm:=fr.s.n } =some (.call f args, { fr.s with wm:=fr.s.n }):=by rw [wL] at lv;exact lv
  have YC: ∀x∈c.operands,R Z fr'.s.h κ (ev fr.e x) (Vm.ev fr'.e x):=by rw [wL] at hρ;exact hρ
  obtain ⟨_,args',h1,h2⟩:=yb (s':= { fr'.s with wm:=fr'.s.n }) KH Ky YC
  have uz:Vm.evalOp T (Vm.ev fr'.e) { fr'.s with wm:=fr'.s.n } o.op=some (.call f args', { fr'.s with wm:=fr'.s.n }):=by rw [wL];exact h1
  have IW:writes (ev fr.e) o.op true=none:=by rw [wL];simp only [writes,bA,Ky]
  have Yn:Vm.writes (Vm.ev fr'.e) o.op true=none:=by rw [wL];simp only [Vm.writes,Vm.bA,Ky]
  have Tx: ∀b b':Bool,(b'=true→b=true)→WR κ (writes (ev fr.e) o.op b) (Vm.writes (Vm.ev fr'.e) o.op b'):=fun b b' xO=>by
   cases b' with
   |false=>exact .inl rfl
   |true=>rw [xO rfl];exact .inr (.inl ⟨IW,Yn⟩)
  have uG: ∀(b₀:Bool) ws,writes (ev fr.e) o.op b₀=some ws→ ∀b∈ws,False:=fun b₀ ws ko b hb=>by
   cases b₀ with
   |false=>simp only [writes,Option.some.injEq] at ko;subst ko;cases hb
   |true=>rw [IW] at ko;cases ko
  simp only [uz]
  split at hr
  ·split at hr
   ·rename_i v s₃ Hu
    obtain ⟨v₁,s₄,κ₂,Z₂,w,bF,e1,h3,h4,h5,h6⟩:=eY _ _ _ _ Hu κ Z args' _ UH h2 (fun _=>Nat.le_refl _)
    cases e1
    simp only [h3]
    rw [oX] at hr
    exact finish hrun bX hok hfl Km Xa (s₁:= { fr.s with wm:=fr.s.n }) rfl h4 h5 h6 (tX:=none) (tV:=none) (wV:=Vm.writes (Vm.ev fr'.e) o.op) trivial (fun b b' _ xO=>Tx b b' xO) (fun _=> .inl IW) (fun ws ko b hb=>(uG _ ws ko b hb).elim) (fun _=> .inl rfl) hr
   ·cases hr
  ·split at hr
   rename_i lH bs s₁ hfz
   obtain ⟨Z₀,k1,k2,k3,k4,k5,k6⟩:=lT hfz UH h2
   split at hr
   ·rename_i v s₃ Hu
    obtain ⟨v₁,s₄,κ₂,Z₂,w,bF,e1,h3,h4,h5,h6⟩:=eY _ _ _ _ Hu κ Z₀ args' _ k1 k2 (fun _=>Nat.le_refl _)
    cases e1
    simp only [h3]
    exact finish hrun bX hok hfl k5 k6 (s₁:=s₁) k3 h4 h5 h6 (tX:=none) (tV:=none) (wV:=Vm.writes (Vm.ev fr'.e) o.op) trivial (fun b b' _ xO=>Tx b b' xO) (fun _=> .inl IW) (fun ws ko b hb=>(uG _ ws ko b hb).elim) (fun _=> .inl rfl) hr
   ·cases hr
 ·
  rename_i f args s₂ lv
  obtain ⟨hs,c,g,wL,Ky⟩:=calls lv (fun v h=>by cases h)
  subst hs
  have KH:dG T c (ev fr.e) { fr.s with wm:=fr.s.n } =some (.round f args, { fr.s with wm:=fr.s.n }):=by rw [wL] at lv;exact lv
  have YC: ∀x∈c.operands,R Z fr'.s.h κ (ev fr.e x) (Vm.ev fr'.e x):=by rw [wL] at hρ;exact hρ
  obtain ⟨_,l',args',hk,h1,h2⟩:=xn (s':= { fr'.s with wm:=fr'.s.n }) KH Ky YC
  have uz:Vm.evalOp T (Vm.ev fr'.e) { fr'.s with wm:=fr'.s.n } o.op=some (.round l' args', { fr'.s with wm:=fr'.s.n }):=by rw [wL];exact h1
  have IW:writes (ev fr.e) o.op true=none:=by rw [wL];simp only [writes,bA,Ky]
  have Yn:Vm.writes (Vm.ev fr'.e) o.op true=none:=by rw [wL];simp only [Vm.writes,Vm.bA,Ky]
  have Tx: ∀b b':Bool,(b'=true→b=true)→WR κ (writes (ev fr.e) o.op b) (Vm.writes (Vm.ev fr'.e) o.op b'):=fun b b' xO=>by
   cases b' with
   |false=>exact .inl rfl
   |true=>rw [xO rfl];exact .inr (.inl ⟨IW,Yn⟩)
  have uG: ∀(b₀:Bool) ws,writes (ev fr.e) o.op b₀=some ws→ ∀b∈ws,False:=fun b₀ ws ko b hb=>by
   cases b₀ with
   |false=>simp only [writes,Option.some.injEq] at ko;subst ko;cases hb
   |true=>rw [IW] at ko;cases ko
  simp only [uz]
  split at hr
  ·rename_i v s₃ Hu
   obtain ⟨v₁,s₄,κ₂,Z₂,w,bF,e1,h3,h4,h5,h6⟩:=nI _ _ _ _ Hu κ Z l' args' _ UH hk h2
   cases e1
   simp only [h3]
   rw [oX] at hr
   exact finish hrun bX hok hfl Km Xa (s₁:= { fr.s with wm:=fr.s.n }) rfl h4 h5 h6 (tX:=none) (tV:=none) (wV:=Vm.writes (Vm.ev fr'.e) o.op) trivial (fun b b' _ xO=>Tx b b' xO) (fun _=> .inl IW) (fun ws ko b hb=>(uG _ ws ko b hb).elim) (fun _=> .inl rfl) hr
  ·cases hr
theorem qb (he:mJ Z h κ fr.e fr'.e) {ops:Array Oper} {o:Oper} {b:Bool} (hw:cg ops fr.e o=some b):Vm.cg ops fr'.e o=b:=by
 unfold cg at hw
 unfold Vm.cg
 split at hw
 ·rename_i hg
  cases hw
  simp only [hg]
 ·rename_i j want hg
  split at hw
  ·rename_i hd
   cases hw
   simp only [hg,hd]
  ·rename_i d hd
   simp only [hg,hd]
   split at hw
   ·rename_i b' gY
    cases hw
    have:=he d
    simp only [ev,gY] at this
    unfold Vm.ev at this
    simp only [] at this
    split at this
    ·rename_i v hv
     cases this
     simp only [hv]
    ·exact nomatch this
   ·rename_i gY
    cases hw
    have:=he d
    simp only [ev,gY] at this
    unfold Vm.ev at this
    simp only [] at this
    split at this
    ·rename_i v hv
     cases this with
     |dQ _ _ _ hl=>cases hl;simp only [hv]
    ·rename_i hv
     simp only [hv]
   ·cases hw
theorem xz {K:Nat→Bool} {rec:Rec} {cL:Vm.Rec} (hrun:CB ng rec cL) (eY:vK ng rec cL) (nI:xW ng rec cL) {ops:Array Oper} {dr:Bool} {fl:List Fl} {og:List de} {l:List Oper}
  (bX:qQ ng κ Z fr fr') (hok:l.all (gk ng)=true) (hfl:dr=true→jt κ Z fr.s.n fr'.s.n fl og∧ZI κ Z fl) {r:ep} (hr:cB K T rec ops dr fl l fr=some r):
  ∃ic κ₂ Z₂ ei,r= .code .normal ic∧Vm.cB T cL ops dr og l fr'=some (.code .normal ei)∧Ext κ Z fr.s fr'.s κ₂ Z₂ ic.s ei.s∧qQ ng κ₂ Z₂ ic ei:=by
 unfold cB at hr
 unfold Vm.cB
 split at hr
 ·split at hr
  ·cases hr;exact ⟨_,κ,Z,fr',rfl,rfl,Ext.refl bX.sm,bX⟩
  ·split at hr
   ·rename_i hd
    cases hr
    obtain ⟨h1,h2⟩:=hfl rfl
    have h3:=Dh bX.sm.inj h1.reverse (fun x hx ws ko b hb c hk hz=>by
     rcases h2 x (List.mem_reverse.1 hx) ws ko b hb c hk hz with ⟨y,k1,k2⟩|⟨y,k1,k2⟩
     ·exact .inl ⟨y,List.mem_reverse.2 k1,k2⟩
     ·exact .inr ⟨y,List.mem_reverse.2 k1,k2⟩) hd
    simp only [h3]
    exact ⟨_,κ,Z,fr',rfl,rfl,Ext.refl bX.sm,bX⟩
   ·cases hr
 ·rename_i o l
  simp only [List.all_cons,Bool.and_eq_true] at hok
  split at hr
  ·cases hr
  ·rename_i hw
   simp only [qb bX.env hw]
   unfold done at hr
   unfold Vm.done
   split at hr
   ·cases hr
   ·rename_i gB hput
    have xU:=bX.sm.wm
    rw [Nat.min_self] at hput ⊢
    obtain ⟨iy,Ak,wG,wP,Ee⟩:=AB bX bX.sm (Ext.refl bX.sm) (show R Z fr'.s.h κ (.dQ []) undef from .dQ κ [] [] (.nil κ)) hput
    simp only [Ak]
    obtain ⟨ic,κ₃,Z₃,ei,k1,k2,k3,k4⟩:=hrun _ _ _ _ _ _ hr κ Z (Vm.cQ dr ⟨some [],some [],fr'.s.n,fr'.s.n⟩ og) iy wG hok.2 (fun uB=>by
     subst uB
     obtain ⟨h1,h2⟩:=hfl rfl
     rw [wP,Ee]
     simp only [cQ,Vm.cQ]
     refine ⟨.cons _ _ _ _ ⟨fun c hc=>absurd hc (by simp),.inl rfl,fun b c hb=> ?_,fun b c hb=> ?_,fun h=>by simp at h,by simp,fun ws ko b hb=> ?_⟩ h1,fun x hx ws ko b hb c hk hz=> ?_⟩
     ·have:=bX.sm.lt b c hb
      simp only [];constructor<;>intro<;>omega
     ·have:=bX.sm.lt b c hb
      simp only [];constructor<;>intro<;>omega
     ·simp only [Option.some.injEq] at ko;subst ko;cases hb
     ·rcases List.mem_cons.1 hx with rfl|hx
      ·simp only [Option.some.injEq] at ko;subst ko;cases hb
      ·rcases h2 x hx ws ko b hb c hk hz with ⟨y,k1,k2⟩|⟨y,k1,k2⟩
       ·exact .inl ⟨y,List.mem_cons_of_mem _ k1,k2⟩
       ·exact .inr ⟨y,List.mem_cons_of_mem _ k1,k2⟩)
    rw [wP,Ee] at k3
    exact ⟨ic,κ₃,Z₃,ei,k1,k2,k3,k4⟩
  ·rename_i hw
   simp only [qb bX.env hw]
   exact zc hrun eY nI bX hok.1 hok.2 hfl hr
end Go.Vm.X
end
noncomputable section
namespace Go.Vm.X
open Go
variable {Z Z':Nat→Prop} {h h':Tr eI} {κ κ':cd} {ng:Nat} {s s₁ s₂ s₃:S} {s' s₁' bF vH:St} {κ₁ κ₂ κ₃:cd} {Z₀ Z₁ Z₂ Z₃:Nat→Prop} {T:Types} {fr ic:F} {fr' ei:Fr}
theorem qQ.move (bX:qQ ng κ Z fr fr') (e:Ext κ Z fr.s fr'.s κ₂ Z₂ s₂ bF) (m:Sm ng κ₂ Z₂ s₂ bF) {ms uP:List Nat} (D6:Ms κ₂ ms uP):
  qQ ng κ₂ Z₂ { fr with s:=s₂,ms:=ms } { fr' with s:=bF,ms:=uP } :=
 ⟨bX.env.mono e.Cp e.km (e.le bX.sm),bX.nt,m,D6⟩
theorem mb (m:Sm ng κ Z s s') {l l':Nat} {r:Lp} (hl:s.h.get l=some (.loop r)) (hk:κ l=some l'): ∃r',s'.h.get l'=some (.loop r')∧MI ng Z s'.h κ r r':=by
 obtain ⟨o',h1,r',rfl,h2⟩:=m.obj l _ l' hl hk
 exact ⟨r',h1,h2⟩
theorem iD (m:Sm ng κ Z s s') {l l':Nat} {r₀ r:Lp} {r':pQ} (hl:s.h.get l=some (.loop r₀)) (hk:κ l=some l') (hr:MI ng Z s'.h κ r r'):
  Ext κ Z s s' κ Z (cM s l r) (Vm.cM s' l' r')∧Sm ng κ Z (cM s l r) (Vm.cM s' l' r'):=by
 obtain ⟨h1,h2⟩:=oH m hl rfl hk (o:= .loop r) (o':= .loop r') ⟨r',rfl,hr⟩
 exact ⟨h1.1,h2⟩
theorem tO {rec:Rec} {cL:Vm.Rec} (dj:vL ng rec cL) (eY:vK ng rec cL) {ro gx:Option Nat} {f:Operand} {ps:Array Tmp} {assign body:Code} {d d':Nat} {ms uP:List Nat}
  (bX:qQ ng κ Z fr fr') (e:Ext κ Z fr.s fr'.s κ₂ Z₂ s₂ bF) (m:Sm ng κ₂ Z₂ s₂ bF) (D6:Ms κ₂ ms uP) (hd:κ₂ d=some d') (hro:MJ κ ro gx) (hf:ld ng f=true) (ha:codeOk ng assign=true) (hb:codeOk ng body=true)
  {r:ep} (hr:b9 rec ro fr f ps assign body d ms s₂=some r):
  ∃x ic κ₃ Z₃ ei,r= .code x ic∧Vm.b9 cL gx fr' f ps assign body d' uP bF=some (.code x ei)∧Ext κ Z fr.s fr'.s κ₃ Z₃ ic.s ei.s∧qQ ng κ₃ Z₃ ic ei:=by
 have hle:=e.le bX.sm
 have kD:=bX.env.mono e.Cp e.km hle
 have XI:=kD.ev m.gl hf
 unfold b9 at hr
 unfold Vm.b9
 split at hr
 ·rename_i g first captured hg
  rw [hg] at XI
  generalize yz:Vm.ev fr'.e f=f' at XI
  cases XI with
  |fn _ _ _ _ a' b' uE hfb=>
   simp only []
   have hk:=oS m
   have hL:MI ng Z₂ bF.h (κ₂.add s₂.n bF.n) { state:= .ready,pending:=none,e:=fr.e,nt:=fr.nt,params:=ps.toList,assign:=assign,body:=body,defers:=d }
     { state:= .ready,pending:=none,fn:=0,e:=fr'.e,nt:=fr'.nt,params:=ps.toList,assign:=assign,body:=body,defers:=d' } :=
    ⟨rfl,rfl,kD.mono (fun _ h=>h) (fun _ _=>rfl) hk,bX.nt,rfl,rfl,rfl,hk _ _ hd,⟨ha,hb⟩,.inl rfl⟩
   obtain ⟨e1,m1⟩:=ir m (o:= .loop { state:= .ready,pending:=none,e:=fr.e,nt:=fr.nt,params:=ps.toList,assign:=assign,body:=body,defers:=d })
    (o':= .loop { state:= .ready,pending:=none,fn:=0,e:=fr'.e,nt:=fr'.nt,params:=ps.toList,assign:=assign,body:=body,defers:=d' }) ⟨_,rfl,hL⟩
   have e1:=e1.1
   have hys:κ₂.add s₂.n bF.n s₂.n=some bF.n:=cd.add_same _ _ _
   split at hr
   ·rename_i v s₃ hc
    obtain ⟨v₁,s₄,κ₃,Z₃,w,vH,q1,q2,q3,q4,q5⟩:=eY _ _ _ _ hc _ Z₂ (a'++(.func (.yield bF.n) #[] #[]::b')) _ m1
     ((uE.mono (fun _ h=>h) e1.km hk).append (.cons _ _ _ _ _ (.yield _ _ _ hys) (hfb.mono (fun _ h=>h) e1.km hk))) (fun hw=>by
      have:=m.wm.1
      simp [newObj] at hw;omega)
    cases q1
    simp only [q2]
    have QY:κ₃ s₂.n=some bF.n:=by rw [q3.BE _ (by simp [newObj])];exact hys
    have E:Ext κ Z fr.s fr'.s κ₃ Z₃ s₃ vH:=(e.trans e1 m).trans q3 m1
    have XT:κ₂.le κ₃:=fun b c hbc=>by
     have h1:=m.lt b c hbc
     rw [q3.BE b (by simp [newObj];omega)]
     exact hk b c hbc
    split at hr
    ·rename_i r₀ iA
     obtain ⟨RH,wI,zY⟩:=mb q4 iA QY
     simp only [wI]
     have jD: ∀st,MI ng Z₃ vH.h κ₃ { r₀ with state:=st } { RH with state:=st } :=fun st=>⟨rfl,zY.pending,zY.env,zY.nt,zY.params,zY.assign,zY.body,zY.defers,zY.ok,zY.jump⟩
     obtain ⟨e2,m2⟩:=iD q4 iA QY (jD .exhausted)
     have E2:=E.trans e2 q4
     have sL:=bX.move E2 m2 (D6.mono XT)
     have hst:=zY.state
     have wM:=zY.pending
     cases QM:r₀.state<;>rw [QM] at hr hst<;>rw [←hst]<;>simp only [] at hr ⊢ <;>try (cases hr;done)
     all_goals
      cases hpx:r₀.pending with
      |none=>
       rw [hpx] at hr wM E2 sL m2
       rw [←wM] at E2 sL m2 ⊢
       simp only [] at hr ⊢
       cases hr
       exact ⟨.normal,_,κ₃,Z₃,_,rfl,rfl,E2,sL⟩
      |some c=>
       have hj:=zY.jump
       rw [hpx] at hr wM hj E2 sL m2
       rw [←wM] at E2 sL m2 ⊢
       simp only [] at hr ⊢
       have Kz:codeOk ng c=true:=by
        rcases hj with h|h|⟨id,h⟩
        ·cases h
        ·cases h;rfl
        ·cases h;rfl
       obtain ⟨x,ic,κ₄,Z₄,ei,w1,w2,w3,w4⟩:=dj _ _ _ _ hr κ₃ Z₃ gx _ Kz sL (hro.mono (E2.le bX.sm))
       exact ⟨x,ic,κ₄,Z₄,ei,w1,w2,E2.trans w3 m2,w4⟩
    ·cases hr
   ·cases hr
 ·cases hr
theorem C6 {rec:Rec} {cL:Vm.Rec} (dj:vL ng rec cL) (hrun:CB ng rec cL) (eY:vK ng rec cL) {c:Code} {ro gx:Option Nat} (hok:codeOk ng c=true) (bX:qQ ng κ Z fr fr') (hro:MJ κ ro gx)
  {r:ep} (hr:cN rec c ro fr=some r):
  ∃x ic κ₂ Z₂ ei,r= .code x ic∧Vm.cN cL c gx fr'=some (.code x ei)∧Ext κ Z fr.s fr'.s κ₂ Z₂ ic.s ei.s∧qQ ng κ₂ Z₂ ic ei:=by
 have stay: ∀x,∃x₁ ic κ₂ Z₂ ei,ep.code x fr= .code x₁ ic∧some (Vm.ep.code x fr')=some (.code x₁ ei)∧Ext κ Z fr.s fr'.s κ₂ Z₂ ic.s ei.s∧qQ ng κ₂ Z₂ ic ei:=
  fun x=>⟨x,fr,κ,Z,fr',rfl,rfl,Ext.refl bX.sm,bX⟩
 cases c<;>simp only [cN] at hr<;>simp only [Vm.cN]<;>try (cases hr;done)
 case skip=>cases hr;exact stay _
 case label=>cases hr;exact stay _
 case ret=>cases hr;exact stay _
 case exit=>cases hr;exact stay _
 case region k ops dr=>
  simp only [codeOk,Bool.and_eq_true] at hok
  obtain ⟨ic,κ₂,Z₂,ei,h1,h2,h3,h4⟩:=hrun _ _ _ _ _ _ hr κ Z [] fr' bX hok.1 (fun _=>⟨.nil,ZI.nil κ Z⟩)
  exact ⟨.normal,ic,κ₂,Z₂,ei,h1,h2,h3,h4⟩
 case seq a b=>
  simp only [codeOk,Bool.and_eq_true] at hok
  unfold eT at hr
  unfold Vm.eT
  cases hq:rec (.code a ro fr) with
  |none=>rw [hq] at hr;cases hr
  |some q=>
   obtain ⟨x,gB,κ₁,Z₁,iy,rfl,h2,h3,h4⟩:=dj _ _ _ _ hq κ Z gx fr' hok.1 bX hro
   rw [hq] at hr
   rw [h2]
   cases x<;>simp only [] at hr ⊢
   ·obtain ⟨x,ic,κ₂,Z₂,ei,k1,k2,k3,k4⟩:=dj _ _ _ _ hr κ₁ Z₁ gx iy hok.2 h4 (hro.mono (h3.le bX.sm))
    exact ⟨x,ic,κ₂,Z₂,ei,k1,k2,h3.trans k3 h4.sm,k4⟩
   ·cases hr;exact ⟨_,gB,κ₁,Z₁,iy,rfl,rfl,h3,h4⟩
   ·cases hr;exact ⟨_,gB,κ₁,Z₁,iy,rfl,rfl,h3,h4⟩
 case cond c a b=>
  simp only [codeOk,Bool.and_eq_true] at hok
  have hc:=bX.env.ev bX.sm.gl hok.1.1
  unfold eo at hr
  unfold Vm.eo
  split at hr
  ·rename_i e
   rw [e] at hc
   generalize lu:Vm.ev fr'.e c=c' at hc
   cases hc
   simp only []
   exact dj _ _ _ _ hr κ Z gx fr' hok.1.2 bX hro
  ·rename_i e
   rw [e] at hc
   generalize lu:Vm.ev fr'.e c=c' at hc
   cases hc
   simp only []
   exact dj _ _ _ _ hr κ Z gx fr' hok.2 bX hro
  ·cases hr
 case block id c=>
  simp only [codeOk] at hok
  unfold dC at hr
  unfold Vm.dC
  cases hq:rec (.code c ro fr) with
  |none=>rw [hq] at hr;cases hr
  |some q=>
   obtain ⟨x,gB,κ₁,Z₁,iy,rfl,h2,h3,h4⟩:=dj _ _ _ _ hq κ Z gx fr' hok bX hro
   rw [hq] at hr
   rw [h2]
   cases x<;>simp only [] at hr ⊢
   ·cases hr;exact ⟨_,gB,κ₁,Z₁,iy,rfl,rfl,h3,h4⟩
   ·rename_i j
    cases hj:Nat.beq j id<;>rw [hj] at hr<;>simp only [] at hr ⊢ <;>cases hr
    ·exact ⟨_,gB,κ₁,Z₁,iy,rfl,rfl,h3,h4⟩
    ·exact ⟨_,gB,κ₁,Z₁,iy,rfl,rfl,h3,h4⟩
   ·cases hr;exact ⟨_,gB,κ₁,Z₁,iy,rfl,rfl,h3,h4⟩
 case loop c=>
  have D9:=hok
  simp only [codeOk] at D9
  unfold dJ at hr
  unfold Vm.dJ
  cases hq:rec (.code c ro fr) with
  |none=>rw [hq] at hr;cases hr
  |some q=>
   obtain ⟨x,gB,κ₁,Z₁,iy,rfl,h2,h3,h4⟩:=dj _ _ _ _ hq κ Z gx fr' D9 bX hro
   rw [hq] at hr
   rw [h2]
   cases x<;>simp only [] at hr ⊢
   ·obtain ⟨x,ic,κ₂,Z₂,ei,k1,k2,k3,k4⟩:=dj _ _ _ _ hr κ₁ Z₁ gx iy hok h4 (hro.mono (h3.le bX.sm))
    exact ⟨x,ic,κ₂,Z₂,ei,k1,k2,h3.trans k3 h4.sm,k4⟩
   ·cases hr;exact ⟨_,gB,κ₁,Z₁,iy,rfl,rfl,h3,h4⟩
   ·cases hr;exact ⟨_,gB,κ₁,Z₁,iy,rfl,rfl,h3,h4⟩
 case scope c=>
  simp only [codeOk] at hok
  exact dj _ _ _ _ hr κ Z gx fr' hok bX hro
 case rangeFunc f ps assign body=>
  simp only [codeOk,Bool.and_eq_true] at hok
  unfold fX at hr
  unfold Vm.fX
  cases ro with
  |some l=>
   cases gx with
   |none=>exact hro.elim
   |some l'=>
    have hk:κ l=some l':=hro
    simp only [] at hr ⊢
    split at hr
    ·rename_i r₀ iA
     obtain ⟨RH,wI,zY⟩:=mb bX.sm iA hk
     simp only [wI]
     exact tO dj eY bX (Ext.refl bX.sm) bX.sm bX.ms zY.defers hro hok.1.1 hok.1.2 hok.2 hr
    ·cases hr
  |none=>
   cases gx with
   |some _=>exact hro.elim
   |none=>
    simp only [] at hr ⊢
    obtain ⟨e1,m1⟩:=ir bX.sm (o:= .defs) (o':= .defs) rfl
    exact tO (ro:=none) (gx:=none) dj eY bX e1.1 m1 (.cons _ _ _ _ (cd.add_same _ _ _) (bX.ms.mono (oS bX.sm))) (cd.add_same _ _ _) trivial hok.1.1 hok.1.2 hok.2 hr
end Go.Vm.X
end
noncomputable section
namespace Go.Vm.X
open Go
variable {Z Z':Nat→Prop} {h h':Tr eI} {κ κ':cd} {ng:Nat} {s s₁ s₂ s₃:S} {s' s₁' bF vH:St} {κ₁ κ₂ κ₃:cd} {Z₀ Z₁ Z₂ Z₃:Nat→Prop} {T:Types} {fr ic:F} {fr' ei:Fr}
theorem xw: ∀ {ms uP:List Nat} {s s₂:S} {s':St},shut ms s=some s₂→Sm ng κ Z s s'→Ms κ ms uP→ ∃bF,Vm.shut uP s'=some bF∧Ext κ Z s s' κ Z s₂ bF∧Sm ng κ Z s₂ bF
 | [],_,s,s₂,s',hr,m,hm=>by
  cases hm
  simp only [shut,Option.some.injEq] at hr
  subst hr
  exact ⟨s',rfl,Ext.refl m,m⟩
 |b::ms,_,s,s₂,s',hr,m,hm=>by
  cases hm with
  |cons _ c _ uP hk hm=>
   unfold shut at hr
   unfold Vm.shut
   split at hr
   ·rename_i hb
    obtain ⟨o',h1,h2⟩:=m.obj b _ c hb hk
    have h2:o'= .defs:=h2
    subst h2
    simp only [h1]
    obtain ⟨e1,m1⟩:=oH m hb rfl hk (o:= .dead) (o':= .dead) trivial
    obtain ⟨bF,k1,k2,k3⟩:=xw hr m1 hm
    exact ⟨bF,k1,e1.1.trans k2 m1,k3⟩
   ·cases hr
theorem kK (m:Sm ng κ Z fr.s fr'.s) (he:mJ Z fr'.s.h κ fr.e fr'.e): ∀ {rs:List ResultVar} {l:List V},cD T rs fr=some l→ ∃l',Vm.cD T rs fr'=some l'∧Rs Z fr'.s.h κ l l'
 | [],l,hr=>by
  simp only [cD,Option.some.injEq] at hr
  subst hr
  exact ⟨[],rfl,.nil _⟩
 | .tmp t::rs,l,hr=>by
  unfold cD at hr
  unfold Vm.cD
  split at hr
  ·rename_i l₀ hl
   cases hr
   obtain ⟨l',h1,h2⟩:=kK m he hl
   simp only [h1]
   exact ⟨_,rfl,.cons _ _ _ _ _ (he t) h2⟩
  ·cases hr
 | .cell a t::rs,l,hr=>by
  unfold cD at hr
  unfold Vm.cD
  split at hr
  ·rename_i ti ht
   split at hr
   ·rename_i v hv
    split at hr
    ·rename_i l₀ hl
     cases hr
     obtain ⟨l',h1,h2⟩:=kK m he hl
     obtain ⟨a',w,h3,h4,h5⟩:=tC m hv (he a)
     simp only [ht,h3,h4,h1]
     exact ⟨_,rfl,.cons _ _ _ _ _ h5 h2⟩
    ·cases hr
   ·cases hr
  ·cases hr
theorem zi {l:List V} {l':List Value} (hl:Rs Z h κ l l'):R Z h κ (fi l) (Vm.fi l'):=by
 cases hl with
 |nil=>exact .dQ _ _ _ (.nil _)
 |cons _ v w l l' hv hl=>
  cases hl with
  |nil=>exact hv
  |cons _ v₂ w₂ l l' hv₂ hl=>exact .dQ _ _ _ (.cons _ _ _ _ _ hv (.cons _ _ _ _ _ hv₂ hl))
theorem BF {fn:Func} (bX:qQ ng κ Z fr fr') {r:ep} (hr:leave T fn fr=some r):
  ∃v s₂ w bF,r= .val v s₂∧Vm.leave T fn fr'=some (.val w bF)∧Ext κ Z fr.s fr'.s κ Z s₂ bF∧Sm ng κ Z s₂ bF∧R Z bF.h κ v w:=by
 unfold leave at hr
 unfold Vm.leave
 split at hr
 ·cases hr
 ·rename_i s₂ hs
  obtain ⟨bF,h1,h2,h3⟩:=xw hs bX.sm bX.ms
  simp only [h1]
  split at hr
  ·rename_i l hl
   cases hr
   obtain ⟨l',h4,h5⟩:=kK (fr:= { fr with s:=s₂ }) (fr':= { fr' with s:=bF }) h3 (bX.env.mono h2.Cp h2.km (h2.le bX.sm)) hl
   simp only [h4]
   exact ⟨_,_,_,_,rfl,rfl,h2,h3,zi h5⟩
  ·cases hr
theorem BK {r:ep} (m0:Sm ng κ Z s s') (x:Ext κ Z s s' κ₂ Z₂ s₂ bF) (m2:Sm ng κ₂ Z₂ s₂ bF) {v:V} {w:Value} (hv:R Z₂ bF.h κ₂ v w) (hw:s.n≤s.wm→s'.n≤s'.wm) (hf:cH s' bF)
  (hr:rT s (some (.val v s₂))=some r): ∃v₃ s₃ κ₃ Z₃,r= .val v₃ s₃∧Ext κ Z s s' κ₃ Z₃ s₃ bF∧Sm ng κ₃ Z₃ s₃ bF∧R Z₃ bF.h κ₃ v₃ w:=by
 unfold rT at hr
 simp only [] at hr
 generalize hp:packed s s₂ v=p at hr
 obtain ⟨v₃,s₃⟩:=p
 simp only [] at hr
 cases hr
 unfold packed at hp
 split at hp
 ·rename_i hc
  simp only [Bool.and_eq_true,Nat.ble_eq] at hc
  obtain ⟨ll,qG⟩:=hc
  have hw':=hw ll
  have sO:s'.n≤bF.wm:=x.Nl s.n s'.n (fun b c hb hle=>x.new b c hle hb) qG hw'
  have hkeep: ∀c,c<s'.n→bF.h.get c=s'.h.get c:=fun c hc=>(hf.keep c hc).resolve_right (by rintro ⟨_,h⟩;omega)
  split at hp
  ·rename_i r hr
   subst hp
   obtain ⟨κ₃,Z₃,h1,h2,h3⟩:=EU m0 x m2 qG ll hkeep sO hv hr
   exact ⟨_,_,κ₃,Z₃,rfl,h1,h2,h3⟩
  ·cases hp;exact ⟨_,_,κ₂,Z₂,rfl,x,m2,hv⟩
 ·cases hp;exact ⟨_,_,κ₂,Z₂,rfl,x,m2,hv⟩
theorem pc {args:List V} {args':List Value} (ha:Rs Z h κ args args'):mJ Z h κ (Tr.ofList .leaf 0 args) (Tr.ofList .leaf 0 args'):=by
 intro t
 have hg: ∀ {α:Type} (l:List α),(Tr.ofList .leaf 0 l).get t=l[t]? :=fun l=>by
  rw [Tr.rq]
  by_cases ht:t<l.length
  ·simp [ht]
  ·simp [ht,Tr.fu]
 simp only [ev,Vm.ev,hg]
 cases hx:args[t]? with
 |none=>exact .bad _ _
 |some v=>
  obtain ⟨v',h1,h2⟩:=ha.get hx
  rw [h1]
  exact h2
structure Tw (ng:Nat) (O:aL) (O':Vm.aL):Prop where
 no: ∀f,O f=none→ ∀a s,O' f a s=none
 yes: ∀f g,O f=some g→ ∀args v (s:S),g args s=some v→ ∀(κ:cd) (Z:Nat→Prop) args' (s':St),s.n≤s.wm→Sm ng κ Z s s'→Rs Z s'.h κ args args'→(s.n≤s.wm→s'.n≤s'.wm)→
  ∃κ₂ Z₂ w bF,O' f args' s'=some (w,bF)∧Ext κ Z s s' κ₂ Z₂ s bF∧Sm ng κ₂ Z₂ s bF∧R Z₂ bF.h κ₂ v w
def Cu (ng:Nat) (G:Tr Func):Prop:= ∀f fn c,G.get f=some fn→fn.body=some c→codeOk ng c=true
theorem CX {O:aL} {O':Vm.aL} {G:Tr Func} (hO:Tw ng O O') (hG:Cu ng G) {rec:Rec} {cL:Vm.Rec} (dj:vL ng rec cL) {f:Nat} {args:List V} {args':List Value}
  (jC: ∀r,Vm.cZ O' G T cL f args' s'=some r→cH s' (ke r))
  (m:Sm ng κ Z s s') (ha:Rs Z s'.h κ args args') (hw:s.n≤s.wm→s'.n≤s'.wm) {r:ep} (hr:cZ O G T rec f args s=some r):
  ∃v s₂ κ₂ Z₂ w bF,r= .val v s₂∧Vm.cZ O' G T cL f args' s'=some (.val w bF)∧Ext κ Z s s' κ₂ Z₂ s₂ bF∧Sm ng κ₂ Z₂ s₂ bF∧R Z₂ bF.h κ₂ v w:=by
 unfold cZ at hr
 unfold Vm.cZ at jC ⊢
 split at hr
 ·rename_i g hg
  split at hr
  ·rename_i hle
   split at hr
   ·rename_i v hv
    cases hr
    obtain ⟨κ₂,Z₂,w,bF,h1,h2,h3,h4⟩:=hO.yes f g hg args v s hv κ Z args' s' (by simpa [Nat.ble_eq] using hle) m ha hw
    simp only [h1]
    exact ⟨_,_,κ₂,Z₂,w,bF,rfl,rfl,h2,h3,h4⟩
   ·cases hr
  ·cases hr
 ·rename_i hno
  have XY:=hO.no f hno args' s'
  rw [XY] at jC ⊢
  simp only [] at jC ⊢
  split at hr
  ·cases hr
  ·rename_i fn hfn
   simp only [hfn] at jC ⊢
   split at hr
   ·cases hr
   ·rename_i c hc
    simp only [hc] at jC ⊢
    split at hr
    ·cases hr
    ·rename_i hlen
     rw [ha.length] at hlen
     simp only [hlen] at jC ⊢
     have bX:qQ ng κ Z { e:=Tr.ofList .leaf 0 args,nt:=fn.ntmps,s:=s,ms:= [] } { e:=Tr.ofList .leaf 0 args',nt:=fn.ntmps,s:=s',ms:= [] } :=⟨pc ha,rfl,m,.nil⟩
     have fin: ∀ {x:VX} {gB:F},rec (.code c none { e:=Tr.ofList .leaf 0 args,nt:=fn.ntmps,s:=s,ms:= [] })=some (.code x gB)→rT s (leave T fn gB)=some r→
       ∃iy,cL (.code c none { e:=Tr.ofList .leaf 0 args',nt:=fn.ntmps,s:=s',ms:= [] })=some (.code x iy)∧
       ∃w bF,Vm.leave T fn iy=some (.val w bF)∧((∀q,Vm.leave T fn iy=some q→cH s' (ke q))→
        ∃v s₂ κ₂ Z₂,r= .val v s₂∧Ext κ Z s s' κ₂ Z₂ s₂ bF∧Sm ng κ₂ Z₂ s₂ bF∧R Z₂ bF.h κ₂ v w):=by
      intro x gB hb hp
      obtain ⟨x₁,ic,κ₁,Z₁,iy,e1,k1,k2,k3⟩:=dj _ _ _ _ hb κ Z none _ (hG f fn c hfn hc) bX trivial
      cases e1
      refine ⟨iy,k1,?_⟩
      cases hl:leave T fn gB with
      |none=>rw [hl] at hp;cases hp
      |some q=>
       obtain ⟨v,s₂,w,bF,rfl,q1,q2,q3,q4⟩:=BF k3 hl
       rw [hl] at hp
       refine ⟨w,bF,q1,fun hf=> ?_⟩
       exact BK m (k2.trans q2 k3.sm) q3 q4 hw (hf _ q1) hp
     split at hr
     ·rename_i gB hb
      obtain ⟨iy,k1,w,bF,k2,k3⟩:=fin hb hr
      simp only [k1] at jC ⊢
      obtain ⟨v,s₂,κ₂,Z₂,q1,q2,q3,q4⟩:=k3 jC
      exact ⟨v,s₂,κ₂,Z₂,w,bF,q1,k2,q2,q3,q4⟩
     ·rename_i gB hb
      obtain ⟨iy,k1,w,bF,k2,k3⟩:=fin hb hr
      simp only [k1] at jC ⊢
      obtain ⟨v,s₂,κ₂,Z₂,q1,q2,q3,q4⟩:=k3 jC
      exact ⟨v,s₂,κ₂,Z₂,w,bF,q1,k2,q2,q3,q4⟩
     ·cases hr
theorem nj {nt:Nat} : ∀ {ps:List Nat} {args:List V} {args':List Value} {e e₂:Tr V} {e':Tr Value},dN ps args nt e=some e₂→Rs Z h κ args args'→mJ Z h κ e e'→
  ∃e₂',Vm.dN ps args' nt e'=some e₂'∧mJ Z h κ e₂ e₂'
 | [], [],_,e,e₂,e',hr,ha,he=>by
  cases ha
  simp only [dN,Option.some.injEq] at hr
  subst hr
  exact ⟨e',rfl,he⟩
 |t::ts,v::vs,_,e,e₂,e',hr,ha,he=>by
  cases ha with
  |cons _ _ w _ ws hv hl=>
   unfold dN at hr
   unfold Vm.dN
   split at hr
   ·rename_i hlt
    simp only [hlt]
    exact nj hr hl (he.set t hv)
   ·cases hr
 | [],_::_,_,_,_,_,hr,_,_=>by cases hr
 |_::_, [],_,_,_,_,hr,_,_=>by cases hr
theorem BL {rec:Rec} {cL:Vm.Rec} (dj:vL ng rec cL) {l l':Nat} {args:List V} {args':List Value} (m:Sm ng κ Z s s') (hk:κ l=some l') (ha:Rs Z s'.h κ args args') {r:ep} (hr:cu rec l args s=some r):
  ∃v s₂ κ₂ Z₂ w bF,r= .val v s₂∧Vm.cu cL l' args' s'=some (.val w bF)∧Ext κ Z s s' κ₂ Z₂ s₂ bF∧Sm ng κ₂ Z₂ s₂ bF∧R Z₂ bF.h κ₂ v w:=by
 unfold cu at hr
 unfold Vm.cu
 split at hr
 ·rename_i r₀ iA
  obtain ⟨RH,wI,hL⟩:=mb m iA hk
  simp only [wI]
  split at hr
  ·cases hr
  ·rename_i e he
   obtain ⟨e',h1,h2⟩:=nj he ha hL.env
   rw [hL.params,hL.nt] at*
   simp only [h1]
   have bX:qQ ng κ Z { e:=e,nt:=RH.nt,s:=s,ms:= [] } { e:=e',nt:=RH.nt,s:=s',ms:= [] } :=⟨h2,rfl,m,.nil⟩
   split at hr
   ·rename_i gB hb
    obtain ⟨x,ic,κ₁,Z₁,iy,e1,k1,k2,k3⟩:=dj _ _ _ _ hb κ Z (some l') _ hL.ok.1 bX hk
    cases e1
    rw [hL.assign] at k1
    simp only [k1]
    have Qj:κ₁ l=some l':=k2.le m _ _ hk
    unfold fL at hr
    unfold Vm.fL
    split at hr
    ·rename_i r₁ Af
     obtain ⟨r₁',KN,FN⟩:=mb k3.sm Af Qj
     simp only [KN]
     split at hr
     ·rename_i hst
      rw [←FN.state,hst]
      simp only []
      obtain ⟨e2,m2⟩:=iD k3.sm Af Qj (r:= { r₁ with state:= .busy }) (r':= { r₁' with state:= .busy })
       ⟨rfl,FN.pending,FN.env,FN.nt,FN.params,FN.assign,FN.body,FN.defers,FN.ok,FN.jump⟩
      have sL:=k3.move e2 m2 k3.ms
      split at hr
      ·rename_i x fr₃ hb₂
       obtain ⟨x₂,fr₄,κ₂,Z₂,WC,e3,q1,q2,q3⟩:=dj _ _ _ _ hb₂ κ₁ Z₁ (some l') _ hL.ok.2 sL Qj
       cases e3
       rw [hL.body] at q1
       simp only [q1]
       have E:=(k2.trans e2 k3.sm).trans q2 m2
       have hk2:κ₂ l=some l':=E.le m _ _ hk
       unfold endRound at hr
       unfold Vm.endRound
       split at hr
       ·rename_i r₂ Ag
        obtain ⟨r₂',KO,Kj⟩:=mb q3.sm Ag hk2
        simp only [KO]
        have jD: ∀st pd,(pd=none∨pd=some .ret∨ ∃id,pd=some (.exit id))→MI ng Z₂ WC.s.h κ₂ { r₂ with state:=st,pending:=pd } { r₂' with state:=st,pending:=pd } :=fun st pd hj=>
         ⟨rfl,rfl,Kj.env,Kj.nt,Kj.params,Kj.assign,Kj.body,Kj.defers,Kj.ok,hj⟩
        cases x<;>simp only [] at hr ⊢ <;>cases hr
        ·obtain ⟨e4,m4⟩:=iD q3.sm Ag hk2 (jD .ready none (.inl rfl))
         exact ⟨_,_,κ₂,Z₂,_,_,rfl,rfl,E.trans e4 q3.sm,m4,.bool _ _⟩
        ·rename_i id
         obtain ⟨e4,m4⟩:=iD q3.sm Ag hk2 (jD .done (some (.exit id)) (.inr (.inr ⟨_,rfl⟩)))
         exact ⟨_,_,κ₂,Z₂,_,_,rfl,rfl,E.trans e4 q3.sm,m4,.bool _ _⟩
        ·obtain ⟨e4,m4⟩:=iD q3.sm Ag hk2 (jD .done (some .ret) (.inr (.inl rfl)))
         exact ⟨_,_,κ₂,Z₂,_,_,rfl,rfl,E.trans e4 q3.sm,m4,.bool _ _⟩
       ·cases hr
      ·cases hr
     ·cases hr
    ·cases hr
   ·cases hr
 ·cases hr
theorem uf {K:Nat→Bool} {O:aL} {O':Vm.aL} {G:Tr Func} (hO:Tw ng O O') (Kk:ia O') (hG:Cu ng G): ∀n,vL ng (go K O G T n) (Vm.go O' G T n)∧CB ng (go K O G T n) (Vm.go O' G T n)∧
  vK ng (go K O G T n) (Vm.go O' G T n)∧xW ng (go K O G T n) (Vm.go O' G T n)
 |0=>by
  have h0: ∀t r,go K O G T 0 t=some r→False:=fun t r h=>by cases h
  exact ⟨fun c ro fr r hr=>(h0 _ _ hr).elim,fun ops dr fl l fr r hr=>(h0 _ _ hr).elim,fun f args s r hr=>(h0 _ _ hr).elim,fun l args s r hr=>(h0 _ _ hr).elim⟩
 |n+1=>by
  obtain ⟨h1,h2,h3,h4⟩:=uf hO Kk hG n
  refine ⟨fun c ro fr r hr κ Z gx fr' hok bX hro=> ?_,fun ops dr fl l fr r hr κ Z og fr' bX hok hfl=> ?_,fun f args s r hr κ Z args' s' m ha hw=> ?_,fun l args s r hr κ Z l' args' s' m hk ha=> ?_⟩
  ·exact C6 h1 h2 h3 hok bX hro hr
  ·exact xz h2 h3 h4 bX hok hfl hr
  ·exact CX hO hG h1 (fun q hq=>lV T G Kk (n+1) (.call f args' s') q hq) m ha hw hr
  ·exact BL h1 m hk ha hr
end Go.Vm.X
end
noncomputable section
namespace Go.Vm
open Go
def fZ (rec cL:Rec):Prop:= ∀t r,rec t=some r→cL t=some r
variable {rec cL:Rec} {T:Types}
theorem fQ {fr:Fr} {o:Oper} {v:Value} {s:St} {c c':Fr→Bool→Nat→Option ep} (hc: ∀fr b m r,c fr b m=some r→c' fr b m=some r) {r:ep} (h:done fr o v s c=some r):done fr o v s c'=some r:=by
 unfold done at h ⊢
 split at h
 ·cases h
 ·exact hc _ _ _ _ h
theorem mh (hl:fZ rec cL) {ops:Array Oper} {dr:Bool} {fl:List de} {o:Oper} {l:List Oper} {fr:Fr} {r:ep} (h:dV T rec ops dr fl o l fr=some r):dV T cL ops dr fl o l fr=some r:=by
 unfold dV at h ⊢
 split at h
 ·cases h
 ·exact fQ (fun _ _ _ _ h=>hl _ _ h) h
 ·split at h
  ·rename_i hq
   simp only [hl _ _ hq]
   exact fQ (fun _ _ _ _ h=>hl _ _ h) h
  ·cases h
 ·split at h
  ·rename_i hq
   simp only [hl _ _ hq]
   exact fQ (fun _ _ _ _ h=>hl _ _ h) h
  ·cases h
theorem kM (hl:fZ rec cL) {ops:Array Oper} {dr:Bool} {fl:List de} {l:List Oper} {fr:Fr} {r:ep} (h:cB T rec ops dr fl l fr=some r):cB T cL ops dr fl l fr=some r:=by
 unfold cB at h ⊢
 cases l with
 |nil=>exact h
 |cons o l=>
  simp only [] at h ⊢
  cases hw:cg ops fr.e o<;>rw [hw] at h<;>simp only [] at h ⊢
  ·exact fQ (fun _ _ _ _ h=>hl _ _ h) h
  ·exact mh hl h
theorem fM (hl:fZ rec cL) {ro:Option Nat} {fr:Fr} {f:Operand} {ps:Array Tmp} {a b:Code} {d:Nat} {ms:List Nat} {s:St} {r:ep} (h:b9 rec ro fr f ps a b d ms s=some r):b9 cL ro fr f ps a b d ms s=some r:=by
 unfold b9 at h ⊢
 split at h
 ·split at h
  ·rename_i hq
   simp only [hl _ _ hq]
   split at h
   ·split at h
    ·cases h
    ·split at h
     ·rename_i hp;rw [hp] at h ⊢;exact h
     ·rename_i hp;rw [hp] at h ⊢;exact hl _ _ h
   ·cases h
  ·cases h
 ·cases h
theorem jJ (hl:fZ rec cL) {c:Code} {ro:Option Nat} {fr:Fr} {r:ep} (h:cN rec c ro fr=some r):cN cL c ro fr=some r:=by
 cases c<;>simp only [cN] at h ⊢ <;>try first|exact h|exact hl _ _ h
 case seq a b=>
  unfold eT at h ⊢
  cases hq:rec (.code a ro fr) with
  |none=>rw [hq] at h;cases h
  |some q=>
   rw [hq] at h;rw [hl _ _ hq]
   split at h
   ·exact hl _ _ h
   ·exact h
 case cond c a b=>
  unfold eo at h ⊢
  split at h
  ·exact hl _ _ h
  ·exact hl _ _ h
  ·cases h
 case block id c=>
  unfold dC at h ⊢
  cases hq:rec (.code c ro fr) with
  |none=>rw [hq] at h;cases h
  |some q=>rw [hq] at h;rw [hl _ _ hq];exact h
 case loop c=>
  unfold dJ at h ⊢
  cases hq:rec (.code c ro fr) with
  |none=>rw [hq] at h;cases h
  |some q=>
   rw [hq] at h;rw [hl _ _ hq]
   split at h
   ·exact hl _ _ h
   ·exact h
 case rangeFunc f ps a b=>
  unfold fX at h ⊢
  cases ro with
  |none=>exact fM hl h
  |some l=>
   simp only [] at h ⊢
   split at h
   ·exact fM hl h
   ·cases h
theorem jI {O:aL} {G:Tr Func} (hl:fZ rec cL) {f:Nat} {args:List Value} {s:St} {r:ep} (h:cZ O G T rec f args s=some r):cZ O G T cL f args s=some r:=by
 unfold cZ at h ⊢
 split at h
 ·rename_i ho;first|exact h|(simp only [ho];exact h)
 ·rename_i ho
  try simp only [ho]
  split at h
  ·cases h
  ·rename_i fn hfn
   try simp only [hfn]
   split at h
   ·cases h
   ·rename_i c hc
    try simp only [hc]
    split at h
    ·cases h
    ·rename_i hle
     try simp only [hle]
     split at h
     ·rename_i hq;simp only [hl _ _ hq];exact h
     ·rename_i hq;simp only [hl _ _ hq];exact h
     ·cases h
theorem jr (hl:fZ rec cL) {l:Nat} {args:List Value} {s:St} {r:ep} (h:cu rec l args s=some r):cu cL l args s=some r:=by
 unfold cu at h ⊢
 split at h
 ·split at h
  ·cases h
  ·split at h
   ·rename_i hq
    simp only [hl _ _ hq]
    unfold fL at h ⊢
    split at h
    ·split at h
     ·split at h
      ·rename_i hq;simp only [hl _ _ hq];exact h
      ·cases h
     ·cases h
    ·cases h
   ·cases h
 ·cases h
theorem pM {O:aL} {G:Tr Func} (hl:fZ rec cL):fZ (AG O G T rec) (AG O G T cL):=by
 intro t r h
 cases t with
 |code c ro fr=>exact jJ hl h
 |run ops dr fl l fr=>exact kM hl h
 |call f args s=>exact jI hl h
 |round l args s=>exact jr hl h
theorem oo {O:aL} {G:Tr Func} : ∀n,fZ (go O G T n) (go O G T (n+1))
 |0=>fun t r h=>by cases h
 |n+1=>pM (oo n)
theorem mB {O:aL} {G:Tr Func} {n m:Nat} (h:n≤m):fZ (go O G T n) (go O G T m):=by
 induction h with
 |refl=>exact fun _ _ h=>h
 |step _ ih=>exact fun t r h=>oo _ t r (ih t r h)
theorem uy {O:aL} {G:Tr Func} {n m:Nat} {t:Task} {r q:ep} (h:go O G T n t=some r) (h':go O G T m t=some q):r=q:=by
 rcases Nat.le_total n m with hl|hl
 ·have:=mB hl t r h;rw [h'] at this;exact (Option.some.inj this).symm
 ·have:=mB hl t q h';rw [h] at this;exact Option.some.inj this
end Go.Vm
end
noncomputable section
namespace Go.Vm.X
open Go
def fZ (rec cL:Rec):Prop:= ∀t r,rec t=some r→cL t=some r
variable {rec cL:Rec} {T:Types} {K:Nat→Bool}
theorem fQ {fr:F} {o:Oper} {v:V} {s:S} {c c':F→Bool→Nat→Option ep} (hc: ∀fr b m r,c fr b m=some r→c' fr b m=some r) {r:ep} (h:done fr o v s c=some r):done fr o v s c'=some r:=by
 unfold done at h ⊢
 split at h
 ·cases h
 ·exact hc _ _ _ _ h
theorem yj {fr:F} {o:Oper} {v:V} {bs:List Nat} {s:S} {c c':F→Bool→Nat→Option ep} (hc: ∀fr b m r,c fr b m=some r→c' fr b m=some r) {r:ep} (h:mV fr o v bs s c=some r):mV fr o v bs s c'=some r:=by
 unfold mV at h ⊢
 split at h
 ·cases h
 ·exact hc _ _ _ _ h
theorem mh (hl:fZ rec cL) {ops:Array Oper} {dr:Bool} {fl:List Fl} {o:Oper} {l:List Oper} {fr:F} {r:ep} (h:dV K T rec ops dr fl o l fr=some r):dV K T cL ops dr fl o l fr=some r:=by
 unfold dV at h ⊢
 split at h
 ·cases h
 ·exact fQ (fun _ _ _ _ h=>hl _ _ h) h
 ·split at h
  ·rename_i hk
   try simp only [hk]
   split at h
   ·rename_i hq
    simp only [hl _ _ hq]
    exact fQ (fun _ _ _ _ h=>hl _ _ h) h
   ·cases h
  ·rename_i hk
   try simp only [hk]
   split at h
   rename_i hfz
   try simp only [hfz]
   split at h
   ·rename_i hq
    simp only [hl _ _ hq]
    exact yj (fun _ _ _ _ h=>hl _ _ h) h
   ·cases h
 ·split at h
  ·rename_i hq
   simp only [hl _ _ hq]
   exact fQ (fun _ _ _ _ h=>hl _ _ h) h
  ·cases h
theorem kM (hl:fZ rec cL) {ops:Array Oper} {dr:Bool} {fl:List Fl} {l:List Oper} {fr:F} {r:ep} (h:cB K T rec ops dr fl l fr=some r):cB K T cL ops dr fl l fr=some r:=by
 unfold cB at h ⊢
 cases l with
 |nil=>exact h
 |cons o l=>
  simp only [] at h ⊢
  split at h
  ·cases h
  ·rename_i hw
   try simp only [hw]
   exact fQ (fun _ _ _ _ h=>hl _ _ h) h
  ·rename_i hw
   try simp only [hw]
   exact mh hl h
theorem fM (hl:fZ rec cL) {ro:Option Nat} {fr:F} {f:Operand} {ps:Array Tmp} {a b:Code} {d:Nat} {ms:List Nat} {s:S} {r:ep} (h:b9 rec ro fr f ps a b d ms s=some r):b9 cL ro fr f ps a b d ms s=some r:=by
 unfold b9 at h ⊢
 split at h
 ·split at h
  ·rename_i hq
   simp only [hl _ _ hq]
   split at h
   ·split at h
    ·cases h
    ·split at h
     ·rename_i hp;rw [hp] at h ⊢;exact h
     ·rename_i hp;rw [hp] at h ⊢;exact hl _ _ h
   ·cases h
  ·cases h
 ·cases h
theorem jJ (hl:fZ rec cL) {c:Code} {ro:Option Nat} {fr:F} {r:ep} (h:cN rec c ro fr=some r):cN cL c ro fr=some r:=by
 cases c<;>simp only [cN] at h ⊢ <;>try first|exact h|exact hl _ _ h
 case seq a b=>
  unfold eT at h ⊢
  cases hq:rec (.code a ro fr) with
  |none=>rw [hq] at h;cases h
  |some q=>
   rw [hq] at h;rw [hl _ _ hq]
   split at h
   ·exact hl _ _ h
   ·exact h
 case cond c a b=>
  unfold eo at h ⊢
  split at h
  ·exact hl _ _ h
  ·exact hl _ _ h
  ·cases h
 case block id c=>
  unfold dC at h ⊢
  cases hq:rec (.code c ro fr) with
  |none=>rw [hq] at h;cases h
  |some q=>rw [hq] at h;rw [hl _ _ hq];exact h
 case loop c=>
  unfold dJ at h ⊢
  cases hq:rec (.code c ro fr) with
  |none=>rw [hq] at h;cases h
  |some q=>
   rw [hq] at h;rw [hl _ _ hq]
   split at h
   ·exact hl _ _ h
   ·exact h
 case rangeFunc f ps a b=>
  unfold fX at h ⊢
  cases ro with
  |none=>exact fM hl h
  |some l=>
   simp only [] at h ⊢
   split at h
   ·exact fM hl h
   ·cases h
theorem jI {O:aL} {G:Tr Func} (hl:fZ rec cL) {f:Nat} {args:List V} {s:S} {r:ep} (h:cZ O G T rec f args s=some r):cZ O G T cL f args s=some r:=by
 unfold cZ at h ⊢
 split at h
 ·rename_i ho;first|exact h|(simp only [ho];exact h)
 ·rename_i ho
  try simp only [ho]
  split at h
  ·cases h
  ·rename_i fn hfn
   try simp only [hfn]
   split at h
   ·cases h
   ·rename_i c hc
    try simp only [hc]
    split at h
    ·cases h
    ·rename_i hle
     try simp only [hle]
     split at h
     ·rename_i hq;simp only [hl _ _ hq];exact h
     ·rename_i hq;simp only [hl _ _ hq];exact h
     ·cases h
theorem jr (hl:fZ rec cL) {l:Nat} {args:List V} {s:S} {r:ep} (h:cu rec l args s=some r):cu cL l args s=some r:=by
 unfold cu at h ⊢
 split at h
 ·split at h
  ·cases h
  ·split at h
   ·rename_i hq
    simp only [hl _ _ hq]
    unfold fL at h ⊢
    split at h
    ·split at h
     ·split at h
      ·rename_i hq;simp only [hl _ _ hq];exact h
      ·cases h
     ·cases h
    ·cases h
   ·cases h
 ·cases h
theorem pM {O:aL} {G:Tr Func} (hl:fZ rec cL):fZ (step K O G T rec) (step K O G T cL):=by
 intro t r h
 cases t with
 |code c ro fr=>exact jJ hl h
 |run ops dr fl l fr=>exact kM hl h
 |call f args s=>exact jI hl h
 |round l args s=>exact jr hl h
theorem oo {O:aL} {G:Tr Func} : ∀n,fZ (go K O G T n) (go K O G T (n+1))
 |0=>fun t r h=>by cases h
 |n+1=>pM (oo n)
theorem mB {O:aL} {G:Tr Func} {n m:Nat} (h:n≤m):fZ (go K O G T n) (go K O G T m):=by
 induction h with
 |refl=>exact fun _ _ h=>h
 |step _ ih=>exact fun t r h=>oo _ t r (ih t r h)
theorem uy {O:aL} {G:Tr Func} {n m:Nat} {t:Task} {r q:ep} (h:go K O G T n t=some r) (h':go K O G T m t=some q):r=q:=by
 rcases Nat.le_total n m with hl|hl
 ·have:=mB hl t r h;rw [h'] at this;exact (Option.some.inj this).symm
 ·have:=mB hl t q h';rw [h] at this;exact Option.some.inj this
end Go.Vm.X
end
noncomputable section
namespace Go.Vm.X
open Go
variable {ng:Nat} {T:Types} {B:Nat} {P:Program} {G:Tr Func} {K:Nat→Bool}
abbrev HV:Vm.aL:=fun _ _ _=>none
abbrev Nh:aL:=fun _=>none
theorem LF:qS ng T B P HV:=fun _ _ _ _ _ h=>by cases h
theorem mE:ia HV:=fun _ _ _ _ _ h=>by cases h
theorem LG:Tw ng Nh HV:=⟨fun _ _ _ _=>rfl,fun _ _ h=>by cases h⟩
def Cy (ng:Nat) (G:Tr Func) (T:Types) (O:aL):Prop:= ∀f g,O f=some g→ ∀args v (s:S),g args s=some v→ ∀(κ:cd) (Z:Nat→Prop) args' (s':St),s.n≤s.wm→Sm ng κ Z s s'→Rs Z s'.h κ args args'→s'.n≤s'.wm→
 ∃n κ₂ Z₂ w bF,Vm.go HV G T n (.call f args' s')=some (.val w bF)∧Ext κ Z s s' κ₂ Z₂ s bF∧Sm ng κ₂ Z₂ s bF∧R Z₂ bF.h κ₂ v w
open Classical in
noncomputable def star (O:aL) (G:Tr Func) (T:Types):Vm.aL:=fun f args s=>
 match O f with
 |none=>none
 |some _=>if h: ∃r:Value×St,∃n,Vm.go HV G T n (.call f args s)=some (.val r.1 r.2) then some h.choose else none
theorem tY {O:aL} {f:Nat} {args:List Value} {s:St} {r:Value×St} (h:star O G T f args s=some r): ∃n,Vm.go HV G T n (.call f args s)=some (.val r.1 r.2):=by
 unfold star at h
 split at h
 ·cases h
 ·split at h
  ·rename_i hx
   cases h
   exact hx.choose_spec
  ·cases h
theorem H4 {O:aL} {f:Nat} {g:List V→S→Option V} (hf:O f=some g) {args:List Value} {s:St} {w:Value} {s':St} {n:Nat} (h:Vm.go HV G T n (.call f args s)=some (.val w s')):star O G T f args s=some (w,s'):=by
 unfold star
 simp only [hf]
 have hx: ∃r:Value×St,∃n,Vm.go HV G T n (.call f args s)=some (.val r.1 r.2):=⟨(w,s'),n,h⟩
 rw [dif_pos hx]
 obtain ⟨m,hm⟩:=hx.choose_spec
 have:=Vm.uy h hm
 simp only [Vm.ep.val.injEq] at this
 rw [Option.some.injEq]
 exact (Prod.ext this.1 this.2).symm
theorem H5 {O:aL} (hO:Cy ng G T O):Tw ng O (star O G T):=by
 refine ⟨fun f hf a s=>by unfold star;simp only [hf],fun f g hf args v s hv κ Z args' s' hw m ha hw'=> ?_⟩
 obtain ⟨n,κ₂,Z₂,w,bF,h1,h2,h3,h4⟩:=hO f g hf args v s hv κ Z args' s' hw m ha (hw' hw)
 exact ⟨κ₂,Z₂,w,bF,H4 hf h1,h2,h3,h4⟩
theorem so {O:aL} :ia (star O G T):=by
 intro f args s v s' h
 obtain ⟨n,hn⟩:=tY h
 exact lV T G mE n _ _ hn
theorem BS {O:aL} (hm:P.follows .mixedOrders=true) (hT:lG P T) (hG:Ic ng P G):qS ng T B P (star O G T):=by
 intro f args s v s' h ι w args' fC hg ha
 obtain ⟨n,hn⟩:=tY h
 exact nA hm hT hG LF mE hn fC hg ha
theorem C7 (hG:Ic ng P G):Cu ng G:=fun f fn c hf hc=>(hG f fn hf).2.2 c hc
theorem AQ {O:aL} (hm:P.follows .mixedOrders=true) (hT:lG P T) (hG:Ic ng P G) (hO:Cy ng G T O) {n:Nat} {f:Nat} {args:List V} {s:S} {v:V} {s₂:S}
  (h:go K O G T n (.call f args s)=some (.val v s₂)) {κ:cd} {Z:Nat→Prop} {st:St} {AK:List Value} (Ll:Sm ng κ Z s st) (hv:Rs Z st.h κ args AK) (hw:s.n≤s.wm→st.n≤st.wm)
  {ι:bN} {w:World} {args':Array Value} (fC:gW ng T ι (Full ι) B st w) (hg:iP ng ι) (ha:bg ι AK args'.toList):
  ∃κ₂ Z₂ u SL,R Z₂ SL.h κ₂ v u∧jd P f∧CallsIn Fence.wide 0 P f args' w (fp ng T B ι st w u SL):=by
 obtain ⟨v₁,s₃,κ₂,Z₂,u,SL,e,h1,h2,h3,h4⟩:=(uf (H5 hO) so (C7 hG) n).2.2.1 f args s _ h κ Z AK st Ll hv hw
 cases e
 exact ⟨κ₂,Z₂,u,SL,h4,nA hm hT hG (BS hm hT hG) so h1 fC hg ha⟩
theorem yJ (hG:Cu ng G) {f n:Nat} {args:List V} {s₀ s₁:S} {v:V} (hrun:go K Nh G T n (.call f args s₀)=some (.val v s₁)) (xU:s₀.n≤s₁.wm) (Lq:s₀.n≤s₀.wm)
  {κ κ₀:cd} {Z:Nat→Prop} {s:S} {s':St} {args':List Value} (m:Sm ng κ Z s s') (m0:Sm ng κ₀ Z s₀ s') (ha:Rs Z s'.h κ₀ args args') (hw:s'.n≤s'.wm):
  ∃w bF,Vm.go HV G T n (.call f args' s')=some (.val w bF)∧Ext κ Z s s' κ Z s bF∧Sm ng κ Z s bF∧ ∃κ₁ Z₁,R Z₁ bF.h κ₁ v w:=by
 obtain ⟨v₁,s₂,κ₁,Z₁,w,bF,e,h1,h2,h3,h4⟩:=(uf (K:=K) LG mE hG n).2.2.1 f args s₀ _ hrun κ₀ Z args' s' m0 ha (fun _=>hw)
 cases e
 have sO:s'.n≤bF.wm:=h2.Nl s₀.n s'.n (fun b c hb hle=>h2.new b c hle hb) xU hw
 have hf:=lV T G mE n _ _ h1
 have hkeep: ∀c,c<s'.n→bF.h.get c=s'.h.get c:=fun c hc=>(hf.keep c hc).resolve_right (by rintro ⟨_,h⟩;have:=sO;simp only [ke] at h;omega)
 have hz: ∀c,Z c→bF.h.get c=s'.h.get c:=fun c hc=>hkeep c (m.FH c hc)
 have Yq:=m.wm
 have wK:=h3.wm.2
 refine ⟨w,bF,h1,⟨Nat.le_refl _,h2.nv,fun _ _=>rfl,fun b c h5 h6=>by have:=m.lt b c h6;omega,fun _ h=>h,hz,fun _ h=> .inl h,Nat.le_refl _,fun b₀ c₀ _ _ h7=>by omega⟩,
  ⟨fun b o c hb hk=> ?_,fun b c hk=> ?_,m.inj,m.sep,fun c hc=> ?_,⟨m.wm.1,wK⟩,m.gl,m.fz⟩,κ₁,Z₁,h4⟩
 ·obtain ⟨o',h5,h6⟩:=m.obj b o c hb hk
  exact ⟨o',by rw [hkeep c (m.lt b c hk).2];exact h5,h6.mono (fun _ h=>h) hz (cd.le_refl _)⟩
 ·have:=m.lt b c hk
  have:=h2.nv
  exact ⟨by omega,by omega⟩
 ·have:=m.FH c hc
  have:=h2.nv
  omega
end Go.Vm.X
#print axioms Go.Vm.X.AQ
end
noncomputable section
namespace Go.Vm.X
open Go
section
variable (O:aL) (G:Tr Func) (T:Types)
abbrev kn:Nat→Bool:=fun _=>false
abbrev run (n:Nat):Rec:=go kn O G T n
def W (t:Task) (Q:ep→Prop):Prop:= ∃n r,run O G T n t=some r∧Q r
def C (c:Code) (ro:Option Nat) (fr:F) (N:F→Prop) (E:Nat→F→Prop) (R:F→Prop):Prop:=
 W O G T (.code c ro fr) fun r=>match r with
  | .code .normal f=>N f
  | .code (.exit id) f=>E id f
  | .code .ret f=>R f
  | .val _ _=>False
def Rn (ops:Array Oper) (dr:Bool) (fl:List Fl) (l:List Oper) (fr:F) (N:F→Prop):Prop:=
 W O G T (.run ops dr fl l fr) fun r=>match r with
  | .code .normal f=>N f
  |_=>False
def Cl (f:Nat) (args:List V) (s:S) (Q:V→S→Prop):Prop:=
 W O G T (.call f args s) fun r=>match r with
  | .val v s=>Q v s
  |_=>False
end
variable {O:aL} {G:Tr Func} {T:Types}
theorem iC {n m:Nat} (h:n≤m):fZ (run O G T n) (run O G T m):=mB h
theorem W.mono {t:Task} {Q Q':ep→Prop} (h:W O G T t Q) (hq: ∀r,Q r→Q' r):W O G T t Q':=let ⟨n,r,h1,h2⟩:=h;⟨n,r,h1,hq r h2⟩
theorem C.mono {c:Code} {ro:Option Nat} {fr:F} {N N':F→Prop} {E E':Nat→F→Prop} {R R':F→Prop} (h:C O G T c ro fr N E R) (hn: ∀f,N f→N' f) (he: ∀i f,E i f→E' i f) (hr: ∀f,R f→R' f):C O G T c ro fr N' E' R':=
 W.mono h fun r hq=>by
  split at hq
  ·exact hn _ hq
  ·exact he _ _ hq
  ·exact hr _ hq
  ·exact hq
theorem Cl.mono {f:Nat} {args:List V} {s:S} {Q Q':V→S→Prop} (h:Cl O G T f args s Q) (hq: ∀v s,Q v s→Q' v s):Cl O G T f args s Q':=
 W.mono h fun r hr=>by
  split at hr
  ·exact hq _ _ hr
  ·exact hr.elim
theorem AT {t:Task} {Q:ep→Prop} {n:Nat} {r:ep} (h:step kn O G T (run O G T n) t=some r) (hq:Q r):W O G T t Q:=⟨n+1,r,h,hq⟩
section code
variable {ro:Option Nat} {fr:F} {N:F→Prop} {E:Nat→F→Prop} {R:F→Prop}
theorem Jk (h:N fr):C O G T .skip ro fr N E R:=AT (n:=0) (r:= .code .normal fr) rfl h
theorem F2 {i} (h:N fr):C O G T (.label i) ro fr N E R:=AT (n:=0) (r:= .code .normal fr) rfl h
theorem Nn (h:R fr):C O G T .ret ro fr N E R:=AT (n:=0) (r:= .code .ret fr) rfl h
theorem Jj {i:Nat} (h:E i fr):C O G T (.exit i) ro fr N E R:=AT (n:=0) (r:= .code (.exit i) fr) rfl h
theorem No {a b:Code} (h:C O G T a ro fr (fun f=>C O G T b ro f N E R) E R):C O G T (.seq a b) ro fr N E R:=by
 obtain ⟨n,r,h1,h2⟩:=h
 have key: ∀r',run O G T (n+1) (.code (.seq a b) ro fr)=some r'↔eT (run O G T n) ro fr a b=some r':=fun _=>Iff.rfl
 split at h2
 ·rename_i f
  obtain ⟨m,r',h3,h4⟩:=h2
  refine ⟨max n m+1,r',?_,h4⟩
  show eT (run O G T (max n m)) ro fr a b=some r'
  unfold eT
  rw [iC (Nat.le_max_left n m) _ _ h1]
  exact iC (Nat.le_max_right n m) _ _ h3
 ·rename_i i f
  refine ⟨n+1,.code (.exit i) f,(key _).2 ?_,h2⟩
  unfold eT;rw [h1]
 ·rename_i f
  refine ⟨n+1,.code .ret f,(key _).2 ?_,h2⟩
  unfold eT;rw [h1]
 ·exact h2.elim
theorem F3 {c:Code} (h:C O G T c ro fr N E R):C O G T (.scope c) ro fr N E R:=by
 obtain ⟨n,r,h1,h2⟩:=h
 exact ⟨n+1,r,h1,h2⟩
theorem F1 {id:Nat} {c:Code} (h:C O G T c ro fr N (fun j f=>(j=id→N f)∧(j≠id→E j f)) R):C O G T (.block id c) ro fr N E R:=by
 obtain ⟨n,r,h1,h2⟩:=h
 have key: ∀r',run O G T (n+1) (.code (.block id c) ro fr)=some r'↔dC (run O G T n) ro fr id c=some r':=fun _=>Iff.rfl
 split at h2
 ·rename_i f
  refine ⟨n+1,.code .normal f,(key _).2 ?_,h2⟩
  unfold dC;rw [h1]
 ·rename_i j f
  by_cases hj:j=id
  ·refine ⟨n+1,.code .normal f,(key _).2 ?_,h2.1 hj⟩
   unfold dC;rw [h1];subst hj;simp
  ·refine ⟨n+1,.code (.exit j) f,(key _).2 ?_,h2.2 hj⟩
   unfold dC;rw [h1]
   have:Nat.beq j id=false:=by
    cases hb:Nat.beq j id with
    |false=>rfl
    |true=>exact absurd (Nat.eq_of_beq_eq_true hb) hj
   simp only [this]
 ·rename_i f
  refine ⟨n+1,.code .ret f,(key _).2 ?_,h2⟩
  unfold dC;rw [h1]
 ·exact h2.elim
theorem Cq {c:Operand} {a b:Code} {p:Bool} (hc:ev fr.e c= .bool p) (ht:p=true→C O G T a ro fr N E R) (hf:p=false→C O G T b ro fr N E R):C O G T (.cond c a b) ro fr N E R:=by
 cases p with
 |true=>
  obtain ⟨n,r,h1,h2⟩:=ht rfl
  refine ⟨n+1,r,?_,h2⟩
  show eo (run O G T n) ro fr c a b=some r
  unfold eo;rw [hc];exact h1
 |false=>
  obtain ⟨n,r,h1,h2⟩:=hf rfl
  refine ⟨n+1,r,?_,h2⟩
  show eo (run O G T n) ro fr c a b=some r
  unfold eo;rw [hc];exact h1
theorem Cr {c:Code} (h:C O G T c ro fr (fun f=>C O G T (.loop c) ro f N E R) E R):C O G T (.loop c) ro fr N E R:=by
 obtain ⟨n,r,h1,h2⟩:=h
 have key: ∀r',run O G T (n+1) (.code (.loop c) ro fr)=some r'↔dJ (run O G T n) ro fr c=some r':=fun _=>Iff.rfl
 split at h2
 ·rename_i f
  obtain ⟨m,r',h3,h4⟩:=h2
  refine ⟨max n m+1,r',?_,h4⟩
  show dJ (run O G T (max n m)) ro fr c=some r'
  unfold dJ
  rw [iC (Nat.le_max_left n m) _ _ h1]
  exact iC (Nat.le_max_right n m) _ _ h3
 ·rename_i i f
  refine ⟨n+1,.code (.exit i) f,(key _).2 ?_,h2⟩
  unfold dJ;rw [h1]
 ·rename_i f
  refine ⟨n+1,.code .ret f,(key _).2 ?_,h2⟩
  unfold dJ;rw [h1]
 ·exact h2.elim
theorem vJ {i:Nat} {ops:Array Oper} {dr:Bool} (h:Rn O G T ops dr [] ops.toList fr N):C O G T (.region i ops dr) ro fr N E R:=by
 obtain ⟨n,r,h1,h2⟩:=h
 refine ⟨n+1,r,h1,?_⟩
 split at h2
 ·exact h2
 ·exact h2.elim
end code
section ops
variable {ops:Array Oper} {dr:Bool} {fl:List Fl} {l:List Oper} {N:F→Prop} {e:Tr V} {nt:Nat} {s:S} {ms:List Nat} {fr:F}
theorem JB (h:N fr):Rn O G T ops false fl [] fr N:=AT (n:=0) (r:= .code .normal fr) rfl h
theorem sX (hd:jx ops fl.reverse=true) (h:N fr):Rn O G T ops true fl [] fr N:=by
 refine AT (n:=0) (r:= .code .normal fr) ?_ h
 show cB kn T (run O G T 0) ops true fl [] fr=_
 unfold cB;simp only [hd]
def rS (T:Types) (e:Tr V) (s:S) (o:Op):Option (gf×S):=evalOp T (ev e) { s with wm:=s.n } o
def iN (e:Tr V) (d:Option Nat) (v:V):Tr V:=match d with
 |none=>e
 |some d=>e.set d v
def mX (d:Option Nat) (nt:Nat):Bool:=match d with
 |none=>true
 |some d=>Nat.blt d nt
theorem yS {d:Option Nat} (hd:mX d nt=true) (v:V) (s₂:S):put ⟨e,nt,s,ms⟩ d v s₂=some ⟨iN e d v,nt,s₂,ms⟩:=by
 unfold put
 cases d with
 |none=>rfl
 |some d=>simp only [mX] at hd;simp only [hd,iN]
theorem ue {o:Oper} (hw:cg ops e o=some true) {v:V} {s₂:S} (he:rS T e s o.op=some (.val v,s₂)) (hd:mX o.dst nt=true)
  (h:Rn O G T ops dr (cQ dr ⟨⟨ag (ev e) o.op,writes (ev e) o.op (Nat.blt s₂.wm s.n),s.n,s₂.n⟩, []⟩ fl) l ⟨iN e o.dst v,nt, { s₂ with wm:=min s.wm s₂.wm },ms⟩ N):
  Rn O G T ops dr fl (o::l) ⟨e,nt,s,ms⟩ N:=by
 obtain ⟨n,r,h1,h2⟩:=h
 refine ⟨n+1,r,?_,h2⟩
 show cB kn T (run O G T n) ops dr fl (o::l) ⟨e,nt,s,ms⟩=some r
 unfold cB
 simp only [hw]
 unfold dV
 unfold rS at he
 simp only [he]
 unfold done
 rw [yS hd]
 exact h1
theorem Cz {o:Oper} (hw:cg ops e o=some false) (hd:mX o.dst nt=true)
  (h:Rn O G T ops dr (cQ dr ⟨⟨some [],some [],s.n,s.n⟩, []⟩ fl) l ⟨iN e o.dst (.dQ []),nt, { s with wm:=min s.wm s.wm },ms⟩ N):
  Rn O G T ops dr fl (o::l) ⟨e,nt,s,ms⟩ N:=by
 obtain ⟨n,r,h1,h2⟩:=h
 refine ⟨n+1,r,?_,h2⟩
 show cB kn T (run O G T n) ops dr fl (o::l) ⟨e,nt,s,ms⟩=some r
 unfold cB
 simp only [hw]
 unfold done
 rw [yS hd]
 exact h1
theorem zo {o:Oper} (hw:cg ops e o=some true) {f:Nat} {args lH:List V} {bs:List Nat} {s₂ s₃:S} (he:rS T e s o.op=some (.call f args,s₂)) (hz:dA args s₂=(lH,bs,s₃)) (hd:mX o.dst nt=true)
  (h:Cl O G T f lH s₃ fun v s₄=>Rn O G T ops dr (cQ dr ⟨⟨none,writes (ev e) o.op (Nat.blt s₄.wm s.n),s.n,s₄.n⟩,bs⟩ fl) l ⟨iN e o.dst v,nt, { s₄ with wm:=least bs (min s.wm s₄.wm) },ms⟩ N):
  Rn O G T ops dr fl (o::l) ⟨e,nt,s,ms⟩ N:=by
 obtain ⟨n,r,h1,h2⟩:=h
 split at h2
 ·rename_i v s₄
  obtain ⟨m,r',h3,h4⟩:=h2
  refine ⟨max n m+1,r',?_,h4⟩
  show cB kn T (run O G T (max n m)) ops dr fl (o::l) ⟨e,nt,s,ms⟩=some r'
  unfold cB
  simp only [hw]
  unfold dV
  unfold rS at he
  simp only [he,hz,iC (Nat.le_max_left n m) _ _ h1]
  unfold mV
  rw [yS hd]
  exact iC (Nat.le_max_right n m) _ _ h3
 ·exact h2.elim
theorem Cs {f:Nat} {fn:Func} {c:Code} {args:List V} {Q:V→S→Prop} (hO:O f=none) (hf:G.get f=some fn) (hb:fn.body=some c) (hn:Nat.ble args.length fn.ntmps=true)
  (h:C O G T c none ⟨Tr.ofList .leaf 0 args,fn.ntmps,s, []⟩ (fun fr=> ∃v s₂,leave T fn fr=some (.val v s₂)∧Q (packed s s₂ v).1 (packed s s₂ v).2) (fun _ _=>False)
   (fun fr=> ∃v s₂,leave T fn fr=some (.val v s₂)∧Q (packed s s₂ v).1 (packed s s₂ v).2)):Cl O G T f args s Q:=by
 obtain ⟨n,r,h1,h2⟩:=h
 have key: ∀r',run O G T (n+1) (.call f args s)=some r'↔cZ O G T (run O G T n) f args s=some r':=fun _=>Iff.rfl
 have go: ∀ {gB:F} {x:VX},(x= .normal∨x= .ret)→run O G T n (.code c none ⟨Tr.ofList .leaf 0 args,fn.ntmps,s, []⟩)=some (.code x gB)→
   (∃v s₂,leave T fn gB=some (.val v s₂)∧Q (packed s s₂ v).1 (packed s s₂ v).2)→Cl O G T f args s Q:=by
  intro gB x hx h1 ⟨v,s₂,h3,h4⟩
  refine ⟨n+1,.val (packed s s₂ v).1 (packed s s₂ v).2,(key _).2 ?_,h4⟩
  unfold cZ
  simp only [hO,hf,hb,hn,h1]
  rcases hx with rfl|rfl
  ·simp only [h3,rT]
  ·simp only [h3,rT]
 split at h2
 ·exact go (.inl rfl) h1 h2
 ·exact h2.elim
 ·exact go (.inr rfl) h1 h2
 ·exact h2.elim
end ops
end Go.Vm.X
end
noncomputable section
namespace Go.Vm.X
open Go
inductive Out where
 |fin (fl:List Fl) (fr:F)
 |call (fl:List Fl) (f:Nat) (args:List V) (s:S) (o:Oper) (l:List Oper) (fr:F)
 |bad
def Pn (dr:Bool) (fl:List Fl) (o:Oper) (fr:F) (v:V) (s₂:S) (c:List Fl→F→Out):Out:=
 match mX o.dst fr.nt with
 |true=>c (cQ dr ⟨⟨ag (ev fr.e) o.op,writes (ev fr.e) o.op (Nat.blt s₂.wm fr.s.n),fr.s.n,s₂.n⟩, []⟩ fl) ⟨iN fr.e o.dst v,fr.nt, { s₂ with wm:=min fr.s.wm s₂.wm },fr.ms⟩
 |false=> .bad
def ex (T:Types) (ops:Array Oper) (dr:Bool):List Fl→List Oper→F→Out
 |fl, [],fr=> .fin fl fr
 |fl,o::l,fr=>
  match cg ops fr.e o with
  |none=> .bad
  |some false=>match mX o.dst fr.nt with
   |true=>ex T ops dr (cQ dr ⟨⟨some [],some [],fr.s.n,fr.s.n⟩, []⟩ fl) l ⟨iN fr.e o.dst (.dQ []),fr.nt, { fr.s with wm:=min fr.s.wm fr.s.wm },fr.ms⟩
   |false=> .bad
  |some true=>match rS T fr.e fr.s o.op with
   |some (.val v,s₂)=>Pn dr fl o fr v s₂ fun fl fr=>ex T ops dr fl l fr
   |some (.call f args,s₂)=> .call fl f args s₂ o l fr
   |_=> .bad
theorem Dn (e:Tr V) (d:Nat) (v:V) (t:Nat):ev (e.set d v) (.tmp t)=if t=d then v else ev e (.tmp t):=by
 simp only [ev,Tr.gv]
 by_cases h:t=d<;>simp [h]
theorem Hf (t:Nat):ev .leaf (.tmp t)= .bad:=by simp only [ev,Tr.fu]
def AP (ops:Array Oper) (ρ:Operand→V) (o:Oper):Option Bool:=
 match o.guard with
 |none=>some true
 |some (j,want)=>match (ops[j]?).bind (·.dst) with
  |none=>some false
  |some d=>match ρ (.tmp d) with
   | .bool b=>some (b == want)
   | .dQ []=>some false
   |_=>none
theorem sy (ops:Array Oper) (e:Tr V) (o:Oper):cg ops e o=AP ops (ev e) o:=by
 unfold cg AP
 cases hg:o.guard with
 |none=>rfl
 |some p=>
  obtain ⟨j,want⟩:=p
  simp only []
  cases hd:(ops[j]?).bind (·.dst) with
  |none=>rfl
  |some d=>
   simp only [ev]
   cases hd:e.get d with
   |none=>rfl
   |some v=>
    cases v<;>try rfl
    rename_i vs
    cases vs<;>rfl
end Go.Vm.X
end
