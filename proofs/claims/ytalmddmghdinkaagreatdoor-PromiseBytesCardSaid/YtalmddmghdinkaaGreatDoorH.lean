/-
  A part of the proof of PromiseBytes: lemmas, in short letters, printed by a program out of the longer texts; conditions: those that each lemma names.
-/
import Derived.Test.YtalmddmghdinkaaGreatDoorG
set_option linter.all false
set_option linter.deprecated false
noncomputable section
namespace Go.Vm.X
open Go
variable {Z Z':Nat→Prop} {h h':Tr eI} {κ κ':cd} {ng:Nat} {s s₁ s₂ s₃:S} {s' bF vH:St} {κ₂ κ₃:cd} {Z₂ Z₃:Nat→Prop} {T:Types}
def Zb (κ:cd) (Z:Nat→Prop) (bs:List Nat):Nat→Prop:=fun c=>Z c∨ ∃b∈bs,κ b=some c
theorem Zb.le {κ:cd} {Z:Nat→Prop} (bs:List Nat): ∀c,Z c→Zb κ Z bs c:=fun _ h=> .inl h
theorem Zb.sub {κ:cd} {Z:Nat→Prop} {bs cs:List Nat} (hs: ∀b,b∈bs→b∈cs): ∀c,Zb κ Z bs c→Zb κ Z cs c:=by
 rintro c (h|⟨b,h1,h2⟩)
 ·exact .inl h
 ·exact .inr ⟨b,hs b h1,h2⟩
def Cb (κ:cd) (s:S) (bs:List Nat):Prop:= ∀b∈bs,(∃cs e bL own,s.h.get b=some (.cells cs e bL own))∧ ∃c,κ b=some c
theorem Cb.nil (κ:cd) (s:S):Cb κ s []:=fun b hb=>absurd hb (by simp)
def Ib (κ:cd) (Z:Nat→Prop) (s:S) (s':St) (f:V→Option (V×List Nat)):Prop:=
 ∀v v' bs w,f v=some (v',bs)→R Z s'.h κ v w→R (Zb κ Z bs) s'.h mQ v' w∧Cb κ s bs
theorem lU {f:V→Option (V×List Nat)} (hf:Ib κ Z s s' f): ∀ {l l':List V} {bs:List Nat} {ws:List Value},jf f l=some (l',bs)→Rs Z s'.h κ l ws→
  Rs (Zb κ Z bs) s'.h mQ l' ws∧Cb κ s bs∧l'.length=l.length
 | [],l',bs,ws,hr,hl=>by
  simp only [jf,Option.some.injEq,Prod.mk.injEq] at hr
  obtain ⟨rfl,rfl⟩:=hr
  cases hl
  exact ⟨.nil _,Cb.nil κ s,rfl⟩
 |v::l,l',bs,ws,hr,hl=>by
  cases hl with
  |cons _ _ w _ ws hv hl=>
   unfold jf at hr
   split at hr
   ·cases hr
   ·rename_i v₁ b₁ hv₁
    split at hr
    ·cases hr
    ·rename_i r₁ c₁ QK
     simp only [Option.some.injEq,Prod.mk.injEq] at hr
     obtain ⟨rfl,rfl⟩:=hr
     obtain ⟨h1,h2⟩:=hf _ _ _ _ hv₁ hv
     obtain ⟨h3,h4,h5⟩:=lU hf QK hl
     refine ⟨.cons _ _ _ _ _ (h1.mono (Zb.sub fun b hb=>by simp [hb]) (fun _ _=>rfl) (cd.le_refl _)) (h3.mono (Zb.sub fun b hb=>by simp [hb]) (fun _ _=>rfl) (cd.le_refl _)),fun b hb=> ?_,by simp [h5]⟩
     rcases List.mem_append.1 hb with hb|hb
     ·exact h2 b hb
     ·exact h4 b hb
theorem qF (m:Sm ng κ Z s s'): ∀n,Ib κ Z s s' (kB s n)
 |0=>fun v v' bs w hr _=>by cases hr
 |n+1=>fun v v' bs w hr hv=>by
  have ih:=qF m n
  have hZ: ∀c,Z c→Zb κ Z [] c:=Zb.le []
  have As:Cb κ s []:=Cb.nil κ s
  unfold kB at hr
  cases hv<;>simp only [] at hr<;>try (cases hr;done)
  all_goals try (simp only [Option.some.injEq,Prod.mk.injEq] at hr;obtain ⟨rfl,rfl⟩:=hr;refine ⟨?_,As⟩;constructor;done)
  ·
   rename_i b o l cap z c hk
   split at hr
   ·cases hr
   ·rename_i hle
    split at hr
    ·cases hr
    ·rename_i cs hcs
     split at hr
     ·rename_i cs' FJ hf
      simp only [Option.some.injEq,Prod.mk.injEq] at hr;obtain ⟨rfl,rfl⟩:=hr
      unfold jl at hcs
      split at hcs
      ·rename_i cs₀ e bL own hb
       split at hcs
       ·rename_i hlen
        cases hcs
        obtain ⟨o',h1,vs,fJ,rfl,h2,_⟩:=m.obj b _ c hb hk
        obtain ⟨h3,h4,h5⟩:=lU ih hf ((h2.drop o).take (l*z))
        have hlen:o+l*z≤cs₀.length:=by simpa [Nat.ble_eq] using hlen
        have h6:cs'.length=l*z:=by rw [h5,List.length_take,List.length_drop];omega
        have hin:Zb κ Z (iG s b FJ) c:=by
         unfold iG
         cases own with
         |false=>rw [hb];exact .inl (m.fz b _ _ _ c hb hk)
         |true=>rw [hb];exact .inr ⟨b,by simp,hk⟩
        have Eg: ∀x,x∈FJ→x∈iG s b FJ:=fun x hx=>by
         unfold iG
         split
         ·exact hx
         ·simp [hx]
        refine ⟨.iL _ _ _ c o cap vs e bL fJ hin h1 (by rw [h6,←h2.length];exact hlen) (by simpa [Nat.ble_eq] using hle) ?_,fun x hx=> ?_⟩
        ·rw [h6];exact h3.mono (Zb.sub Eg) (fun _ _=>rfl) (cd.le_refl _)
        ·have hx:x=b∨x∈FJ:=by
          unfold iG at hx
          split at hx
          ·exact .inr hx
          ·simpa using hx
         rcases hx with rfl|hx
         ·exact ⟨⟨_,_,_,_,hb⟩,c,hk⟩
         ·exact h4 x hx
       ·cases hcs
      ·cases hcs
     ·cases hr
  ·rename_i cs l c o cap vs e bL own hz hc hl hcap nU
   simp only [Option.some.injEq,Prod.mk.injEq] at hr;obtain ⟨rfl,rfl⟩:=hr
   exact ⟨.iL _ _ _ _ _ _ _ _ _ _ (hZ _ hz) hc hl hcap (nU.mono hZ (fun _ _=>rfl) (cd.le_refl _)),As⟩
  ·rename_i cs c o vs e bL own hz hc hl nU
   simp only [Option.some.injEq,Prod.mk.injEq] at hr;obtain ⟨rfl,rfl⟩:=hr
   exact ⟨.dS _ _ _ _ _ _ _ _ (hZ _ hz) hc hl (nU.mono hZ (fun _ _=>rfl) (cd.le_refl _)),As⟩
  ·rename_i f a b a' b' ha hb
   cases a with
   |nil=>cases b with
    |nil=>
     simp only [Option.some.injEq,Prod.mk.injEq] at hr;obtain ⟨rfl,rfl⟩:=hr
     cases ha;cases hb
     exact ⟨.fn _ _ _ _ _ _ (.nil _) (.nil _),As⟩
    |cons _ _=>cases hr
   |cons _ _=>cases hr
  ·rename_i l l' hl
   split at hr
   ·rename_i cs' FJ hf
    simp only [Option.some.injEq,Prod.mk.injEq] at hr;obtain ⟨rfl,rfl⟩:=hr
    obtain ⟨h3,h4,h5⟩:=lU ih hf hl
    exact ⟨.agg _ _ _ h3,h4⟩
   ·cases hr
  ·rename_i l l' hl
   split at hr
   ·rename_i cs' FJ hf
    simp only [Option.some.injEq,Prod.mk.injEq] at hr;obtain ⟨rfl,rfl⟩:=hr
    obtain ⟨h3,h4,h5⟩:=lU ih hf hl
    exact ⟨.dQ _ _ _ h3,h4⟩
   ·cases hr
theorem jj: ∀(bs:List Nat) (s:S),(mark bs s).n=s.n∧(mark bs s).wm=s.wm∧
  (∀d,(∃cs e bL own,s.h.get d=some (.cells cs e bL own)∧(d∈bs→(mark bs s).h.get d=some (.cells cs e bL false))∧(d∉bs→(mark bs s).h.get d=some (.cells cs e bL own)))∨
   ((∀cs e bL own,s.h.get d≠some (.cells cs e bL own))∧(mark bs s).h.get d=s.h.get d))
 | [],s=>by
  refine ⟨rfl,rfl,fun d=> ?_⟩
  by_cases hd: ∃cs e bL own,s.h.get d=some (.cells cs e bL own)
  ·obtain ⟨cs,e,bL,own,hd⟩:=hd
   exact .inl ⟨cs,e,bL,own,hd,fun h=>absurd h (by simp),fun _=>hd⟩
  ·exact .inr ⟨fun cs e bL own h=>hd ⟨cs,e,bL,own,h⟩,rfl⟩
 |b::bs,s=>by
  unfold mark
  split
  ·rename_i cs e bL own hb
   obtain ⟨h1,h2,h3⟩:=jj bs { s with h:=s.h.set b (.cells cs e bL false) }
   refine ⟨h1,h2,fun d=> ?_⟩
   rcases h3 d with ⟨cs',e',sk,fJ,k1,k2,k3⟩|⟨k1,k2⟩
   ·simp only [] at k1
    by_cases hd:d=b
    ·subst hd
     rw [Tr.aQ] at k1
     cases k1
     refine .inl ⟨_,_,_,_,hb,fun _=> ?_,fun hn=>absurd (by simp) hn⟩
     by_cases hm:d∈bs
     ·exact k2 hm
     ·exact k3 hm
    ·rw [Tr.aK _ _ hd] at k1
     refine .inl ⟨_,_,_,_,k1,fun hm=>k2 (by simpa [hd] using hm),fun hm=>k3 (fun h=>hm (by simp [h]))⟩
   ·simp only [] at k1 k2
    by_cases hd:d=b
    ·subst hd
     exact absurd (Tr.aQ _ _ _) (k1 cs e bL false)
    ·rw [Tr.aK _ _ hd] at k2
     refine .inr ⟨fun cs' e' sk fJ h=> ?_,k2⟩
     exact k1 cs' e' sk fJ (by rw [Tr.aK _ _ hd];exact h)
  ·rename_i hb
   obtain ⟨h1,h2,h3⟩:=jj bs s
   refine ⟨h1,h2,fun d=> ?_⟩
   rcases h3 d with ⟨cs',e',sk,fJ,k1,k2,k3⟩|⟨k1,k2⟩
   ·have hd:d≠b:=by rintro rfl;exact hb _ _ _ _ k1
    exact .inl ⟨_,_,_,_,k1,fun hm=>k2 (by simpa [hd] using hm),fun hm=>k3 (fun h=>hm (by simp [h]))⟩
   ·exact .inr ⟨k1,k2⟩
theorem EA (m:Sm ng κ Z s s') {bs:List Nat} (hb:Cb κ s bs):Sm ng κ (Zb κ Z bs) (mark bs s) s':=by
 obtain ⟨h1,h2,h3⟩:=jj bs s
 refine ⟨fun d o c ho hk=> ?_,fun b c hk=>by rw [h1];exact m.lt b c hk,m.inj,fun d o c ho hl hk=> ?_,?_,by rw [h1,h2];exact m.wm,m.gl,fun d cs' e' sk c hd hk=> ?_⟩
 ·rcases h3 d with ⟨cs,e,bL,own,k1,k2,k3⟩|⟨k1,k2⟩
  ·obtain ⟨o',h4,vs,fJ,rfl,h5,h6⟩:=m.obj d _ c k1 hk
   refine ⟨_,h4,?_⟩
   by_cases hm:d∈bs
   ·rw [k2 hm] at ho;cases ho
    exact ⟨vs,fJ,rfl,h5.mono (Zb.le bs) (fun _ _=>rfl) (cd.le_refl _),fun h=>by cases h⟩
   ·rw [k3 hm] at ho;cases ho
    exact ⟨vs,fJ,rfl,h5.mono (Zb.le bs) (fun _ _=>rfl) (cd.le_refl _),h6⟩
  ·rw [k2] at ho
   obtain ⟨o',h4,h5⟩:=m.obj d o c ho hk
   exact ⟨o',h4,h5.mono (Zb.le bs) (fun _ _=>rfl) (cd.le_refl _)⟩
 ·rintro (hz|⟨b,Xn,FO⟩)
  ·rcases h3 d with ⟨cs,e,bL,own,k1,k2,k3⟩|⟨k1,k2⟩
   ·by_cases hm:d∈bs
    ·rw [k2 hm] at ho;cases ho;cases hl
    ·rw [k3 hm] at ho;cases ho
     exact m.sep d _ c k1 hl hk hz
   ·rw [k2] at ho;exact m.sep d o c ho hl hk hz
  ·obtain rfl:=m.inj b d c FO hk
   obtain ⟨⟨cs,e,bL,own,hcs⟩,_⟩:=hb b Xn
   rcases h3 b with ⟨cs,e,bL,own,k1,k2,k3⟩|⟨k1,k2⟩
   ·rw [k2 Xn] at ho;cases ho;cases hl
   ·exact k1 _ _ _ _ hcs
 ·rintro c (hz|⟨b,Xn,FO⟩)
  ·exact m.FH c hz
  ·exact (m.lt b c FO).2
 ·rcases h3 d with ⟨cs,e,bL,own,k1,k2,k3⟩|⟨k1,k2⟩
  ·by_cases hm:d∈bs
   ·exact .inr ⟨d,hm,hk⟩
   ·rw [k3 hm] at hd;cases hd
    exact .inl (m.fz d _ _ _ c k1 hk)
  ·rw [k2] at hd;exact absurd hd (k1 _ _ _ _)
theorem lT: ∀ {args lH:List V} {L:List Nat} {s s₂:S} {Z:Nat→Prop} {ws:List Value},dA args s=(lH,L,s₂)→Sm ng κ Z s s'→Rs Z s'.h κ args ws→
  ∃Z₂,Sm ng κ Z₂ s₂ s'∧Rs Z₂ s'.h κ lH ws∧s₂.n=s.n∧s₂.wm=s.wm∧(∀c,Z c→Z₂ c)∧ ∀c,Z₂ c→Zb κ Z L c
 | [],_,_,s,s₂,Z,ws,hr,m,ha=>by
  simp only [dA,Prod.mk.injEq] at hr
  obtain ⟨rfl,rfl,rfl⟩:=hr
  cases ha
  exact ⟨Z,m,.nil _,rfl,rfl,fun _ h=>h,fun _ h=> .inl h⟩
 |v::args,_,_,s,s₂,Z,ws,hr,m,ha=>by
  cases ha with
  |cons _ _ w _ ws hv hl=>
   unfold dA at hr
   split at hr
   ·rename_i v' bs hf
    obtain ⟨k1,k2⟩:=qF m 24 _ _ _ _ hf hv
    have m1:=EA m k2
    obtain ⟨h1,h2,_⟩:=jj bs s
    split at hr
    rename_i r l s₁ QK
    simp only [Prod.mk.injEq] at hr
    obtain ⟨rfl,rfl,rfl⟩:=hr
    obtain ⟨Z₂,k3,k4,k5,k6,k7,k8⟩:=lT QK m1 (hl.mono (Zb.le bs) (fun _ _=>rfl) (cd.le_refl _))
    refine ⟨Z₂,k3,.cons _ _ _ _ _ (k1.mono k7 (fun _ _=>rfl) (fun _ _ h=>by cases h)) k4,by rw [k5,h1],by rw [k6,h2],fun c h=>k7 c (.inl h),fun c h=> ?_⟩
    rcases k8 c h with (h3|⟨b,h3,h4⟩)|⟨b,h3,h4⟩
    ·exact .inl h3
    ·exact .inr ⟨b,by simp [h3],h4⟩
    ·exact .inr ⟨b,by simp [h3],h4⟩
   ·split at hr
    rename_i r l s₁ QK
    simp only [Prod.mk.injEq] at hr
    obtain ⟨rfl,rfl,rfl⟩:=hr
    obtain ⟨Z₂,k3,k4,k5,k6,k7,k8⟩:=lT QK m hl
    exact ⟨Z₂,k3,.cons _ _ _ _ _ (hv.mono k7 (fun _ _=>rfl) (cd.le_refl _)) k4,k5,k6,k7,k8⟩
theorem tK (m0:Sm ng κ Z s s') (x:Ext κ Z s s' κ₂ Z₂ s₂ bF) (m2:Sm ng κ₂ Z₂ s₂ bF) (hw:s.n≤s₂.wm) (Lq:s.n≤s.wm) (hkeep: ∀c,c<s'.n→bF.h.get c=s'.h.get c) (sO:s'.n≤bF.wm)
  {bs:List Nat} (hold:jy s.n bs=true):
  Ext κ Z s s' κ (Zb κ₂ Z₂ bs) s bF∧Sm ng κ (Zb κ₂ Z₂ bs) s bF∧(∀c,Zb κ₂ Z₂ bs c→Z c∨s'.n≤c):=by
 have hz: ∀c,Zb κ₂ Z₂ bs c→Z c∨s'.n≤c:=by
  rintro c (h1|⟨b,h1,h2⟩)
  ·rcases x.B6 c h1 with h3|h3|⟨b,h3,h4⟩
   ·exact .inl h3
   ·exact .inr h3
   ·have:=m0.lt b c h3;omega
  ·unfold jy at hold
   rw [List.all_eq_true] at hold
   have:=hold b h1
   exact .inr (x.new b c (by simpa [Nat.ble_eq] using this) h2)
 have YB: ∀c,Z c→Zb κ₂ Z₂ bs c:=fun c h=> .inl (x.Cp c h)
 have Yq:=m0.wm
 refine ⟨⟨Nat.le_refl _,x.nv,fun _ _=>rfl,fun b c h1 h2=>by have:=m0.lt b c h2;omega,YB,fun c h=>x.km c h,fun c h=> ?_,Nat.le_refl _,fun b₀ c₀ _ _ h3=>by omega⟩,
  ⟨fun b o c ho hk=> ?_,fun b c hk=> ?_,m0.inj,fun b o c ho hl hk h=> ?_,?_,⟨m0.wm.1,m2.wm.2⟩,m0.gl,fun b cs e bL c hb hk=>YB c (m0.fz b cs e bL c hb hk)⟩,hz⟩
 ·rcases hz c h with h1|h1
  ·exact .inl h1
  ·exact .inr (.inl h1)
 ·obtain ⟨o',h1,h2⟩:=m0.obj b o c ho hk
  exact ⟨o',by rw [hkeep c (m0.lt b c hk).2];exact h1,h2.mono YB (fun c h=>x.km c h) (cd.le_refl _)⟩
 ·have:=m0.lt b c hk
  have:=x.nv
  exact ⟨by omega,by omega⟩
 ·rcases hz c h with h1|h1
  ·exact m0.sep b o c ho hl hk h1
  ·have:=m0.lt b c hk;omega
 ·rintro c (h1|⟨b,_,h2⟩)
  ·exact m2.FH c h1
  ·exact (m2.lt b c h2).2
theorem tH (m0:Sm ng κ Z s s') (x:Ext κ Z s s' κ₂ Z₂ s₂ bF) (m2:Sm ng κ₂ Z₂ s₂ bF) (hw:s.n≤s₂.wm) (Lq:s.n≤s.wm) (hkeep: ∀c,c<s'.n→bF.h.get c=s'.h.get c) (sO:s'.n≤bF.wm)
  {v v':V} {w:Value} (hv:R Z₂ bF.h κ₂ v w) (hp:lf s s₂ v=some (v',s₃)): ∃κ₃ Z₃,Ext κ Z s s' κ₃ Z₃ s₃ bF∧Sm ng κ₃ Z₃ s₃ bF∧R Z₃ bF.h κ₃ v' w:=by
 unfold lf at hp
 split at hp
 ·rename_i v₁ bs hf
  split at hp
  ·rename_i hold
   simp only [Option.some.injEq,Prod.mk.injEq] at hp;obtain ⟨rfl,rfl⟩:=hp
   obtain ⟨k1,k2⟩:=qF m2 24 _ _ _ _ hf hv
   obtain ⟨h1,h2,_⟩:=tK m0 x m2 hw Lq hkeep sO hold
   exact ⟨κ,_,h1,h2,k1.mono (fun _ h=>h) (fun _ _=>rfl) (fun _ _ h=>by cases h)⟩
  ·cases hp
 ·cases hp
theorem EU (m0:Sm ng κ Z s s') (x:Ext κ Z s s' κ₂ Z₂ s₂ bF) (m2:Sm ng κ₂ Z₂ s₂ bF) (hw:s.n≤s₂.wm) (Lq:s.n≤s.wm) (hkeep: ∀c,c<s'.n→bF.h.get c=s'.h.get c) (sO:s'.n≤bF.wm)
  {v v':V} {w:Value} (hv:R Z₂ bF.h κ₂ v w) (hp:pack s s₂ v=some (v',s₃)): ∃κ₃ Z₃,Ext κ Z s s' κ₃ Z₃ s₃ bF∧Sm ng κ₃ Z₃ s₃ bF∧R Z₃ bF.h κ₃ v' w:=by
 unfold pack at hp
 split at hp
 ·rename_i b o l cap z
  split at hp
  ·rename_i cs e bL hb
   split at hp
   ·rename_i cs' bs hf
    split at hp
    ·rename_i hc
     simp only [Option.some.injEq,Prod.mk.injEq] at hp;obtain ⟨rfl,rfl⟩:=hp
     simp only [Bool.and_eq_true,Nat.ble_eq] at hc
     obtain ⟨hn,hold,K4⟩:=hc
     cases hv with
     |sl _ _ _ _ _ _ c hk=>
      obtain ⟨h1,h2,h3⟩:=tK m0 x m2 hw Lq hkeep sO hold
      have T4:s'.n≤c:=x.new b c hn hk
      obtain ⟨o',h4,vs,fJ,rfl,h5,h6⟩:=m2.obj b _ c hb hk
      obtain ⟨k1,k2,_⟩:=lU (qF m2 24) hf h5
      have XZ: ¬Zb κ₂ Z₂ bs c:=by
       rintro (h|⟨d,h7,h8⟩)
       ·exact m2.sep b _ c hb rfl hk h
       ·obtain rfl:=m2.inj d b c h8 hk
        unfold At at K4
        rw [List.all_eq_true] at K4
        have:=K4 d h7
        simp at this
      have hlt:=m2.lt b c hk
      have hle:κ.le (κ.add s.n c):=fun d e hd=>by
       have:=m0.lt d e hd
       rw [cd.di _ _ (by omega)];exact hd
      refine ⟨κ.add s.n c,Zb κ₂ Z₂ bs,⟨by simp [newObj],h1.nv,fun d hd=>cd.di _ _ (by omega),fun d e h7 h8=> ?_,h1.Cp,h1.km,h1.B6,Nat.le_refl _,fun b₀ c₀ _ _ h9=> ?_⟩,
       ⟨fun d od e h7 h8=> ?_,fun d e h7=> ?_,fun d d' e h7 h8=> ?_,fun d od e h7 h8 h9=> ?_,h2.FH,⟨by have:=m0.wm.1;simp [newObj];omega,m2.wm.2⟩,fun g hg=> ?_,fun d JW e2 acw f h7 h8=> ?_⟩,.sl _ _ _ _ _ _ _ (cd.add_same _ _ _)⟩
      ·by_cases hd:d=s.n
       ·subst hd;rw [cd.add_same] at h8;cases h8;exact T4
       ·rw [cd.di _ _ hd] at h8;have:=m0.lt d e h8;omega
      ·have:=m0.wm.2;omega
      ·simp only [newObj] at h7
       by_cases hd:d=s.n
       ·subst hd
        rw [Tr.aQ] at h7;cases h7
        rw [cd.add_same] at h8;cases h8
        exact ⟨_,h4,vs,fJ,rfl,k1.mono (fun _ h=>h) (fun _ _=>rfl) (fun _ _ h=>by cases h),fun _=>h6 rfl⟩
       ·rw [Tr.aK _ _ hd] at h7
        rw [cd.di _ _ hd] at h8
        obtain ⟨Rv,h9,h10⟩:=h2.obj d od e h7 h8
        exact ⟨Rv,h9,h10.mono (fun _ h=>h) (fun _ _=>rfl) hle⟩
      ·by_cases hd:d=s.n
       ·subst hd;rw [cd.add_same] at h7;cases h7;simp only [newObj];omega
       ·rw [cd.di _ _ hd] at h7;have:=h2.lt d e h7;simp only [newObj];omega
      ·by_cases hd:d=s.n
       ·by_cases gj:d'=s.n
        ·omega
        ·subst hd;rw [cd.add_same] at h7;cases h7
         rw [cd.di _ _ gj] at h8;have:=m0.lt d' _ h8;omega
       ·rw [cd.di _ _ hd] at h7
        by_cases gj:d'=s.n
        ·subst gj;rw [cd.add_same] at h8;cases h8;have:=m0.lt d _ h7;omega
        ·rw [cd.di _ _ gj] at h8;exact m0.inj d d' e h7 h8
      ·simp only [newObj] at h7
       by_cases hd:d=s.n
       ·subst hd;rw [cd.add_same] at h9;cases h9;exact XZ
       ·rw [Tr.aK _ _ hd] at h7
        rw [cd.di _ _ hd] at h9
        exact h2.sep d od e h7 h8 h9
      ·have:=m0.lt g g (m0.gl g hg)
       rw [cd.di _ _ (by omega)];exact m0.gl g hg
      ·simp only [newObj] at h7
       by_cases hd:d=s.n
       ·subst hd;rw [Tr.aQ] at h7;cases h7
       ·rw [Tr.aK _ _ hd] at h7
        rw [cd.di _ _ hd] at h8
        exact h2.fz d _ _ _ f h7 h8
    ·cases hp
   ·cases hp
  ·exact tH m0 x m2 hw Lq hkeep sO hv hp
  ·cases hp
 ·exact tH m0 x m2 hw Lq hkeep sO hv hp
end Go.Vm.X
end
noncomputable section
namespace Go.Vm.X
open Go
variable {Z Z':Nat→Prop} {h h':Tr eI} {κ κ':cd} {ng:Nat} {s s₁ s₂ s₃:S} {s' bF vH:St} {κ₂ κ₃:cd} {Z₂ Z₃:Nat→Prop} {T:Types}
theorem tD (a b:Reach):a.meets b=true↔a≠some []∧b≠some []∧(a=none∨b=none∨ ∃l m x,a=some l∧b=some m∧x∈l∧x∈m):=by
 cases a with
 |none=>cases b with
  |none=>simp [Reach.meets]
  |some m=>cases m with
   |nil=>simp [Reach.meets]
   |cons x m=>simp [Reach.meets]
 |some l=>cases l with
  |nil=>simp [Reach.meets]
  |cons y l=>cases b with
   |none=>simp [Reach.meets]
   |some m=>cases m with
    |nil=>simp [Reach.meets]
    |cons x m=>
     simp only [Reach.meets,List.any_eq_true,List.contains_iff_mem]
     constructor
     ·rintro ⟨z,h1,h2⟩
      exact ⟨by simp,by simp,.inr (.inr ⟨_,_,z,rfl,rfl,h1,h2⟩)⟩
     ·rintro ⟨_,_,h|h|⟨l',m',z,h1,h2,h3,h4⟩⟩
      ·cases h
      ·cases h
      ·cases h1;cases h2;exact ⟨z,h3,h4⟩
def TR (κ:cd) (Z:Nat→Prop) (x y:Reach):Prop:=
 match x,y with
 |none,_=>True
 |some l,some m=> ∀c∈m,(∃b∈l,κ b=some c)∨(Z c∧l≠ [])
 |some _,none=>False
def WR (κ:cd) (x y:Reach):Prop:=y=some []∨(x=none∧y=none)∨ ∃l m,x=some l∧y=some m∧ ∀c∈m,∃b∈l,κ b=some c
structure Jx (κ:cd) (Z:Nat→Prop) (n n':Nat) (x:Fl) (y:de):Prop where
 t:TR κ Z x.f.t y.t
 w:WR κ x.f.w y.w
 lo: ∀b c,κ b=some c→(y.lo≤c↔x.f.lo≤b)
 hi: ∀b c,κ b=some c→(c<y.hi↔b<x.f.hi)
 al:y.lo<y.hi→x.f.t=none∨x.f.lo<x.f.hi
 le:x.f.lo≤n∧x.f.hi≤n∧y.lo≤n'∧y.hi≤n'
 wlt: ∀l,x.f.w=some l→ ∀b∈l,b<n
theorem Jx.mono {x:Fl} {y:de} (r:Jx κ Z s.n s'.n x y) (m:Sm ng κ Z s s') (e:Ext κ Z s s' κ₂ Z₂ s₂ bF):Jx κ₂ Z₂ s₂.n bF.n x y:=by
 have hle:=e.le m
 have old: ∀b c,κ₂ b=some c→κ b=some c∨(s.n≤b∧s'.n≤c):=fun b c hb=>by
  by_cases h:b<s.n
  ·rw [e.BE b h] at hb;exact .inl hb
  ·exact .inr ⟨by omega,e.new b c (by omega) hb⟩
 have hn:=e.n
 have hnv:=e.nv
 have hl:=r.le
 refine ⟨?_,?_,fun b c hb=> ?_,fun b c hb=> ?_,r.al,⟨by omega,by omega,by omega,by omega⟩,fun l hl b hb=>by have:=r.wlt l hl b hb;omega⟩
 ·have:=r.t
  unfold TR at this ⊢
  split at this
  ·trivial
  ·intro c hc
   rcases this c hc with ⟨b,h1,h2⟩|⟨h1,h2⟩
   ·exact .inl ⟨b,h1,hle _ _ h2⟩
   ·exact .inr ⟨e.Cp c h1,h2⟩
  ·exact this
 ·rcases r.w with h|h|⟨l,m',h1,h2,h3⟩
  ·exact .inl h
  ·exact .inr (.inl h)
  ·exact .inr (.inr ⟨l,m',h1,h2,fun c hc=>let ⟨b,h4,h5⟩:=h3 c hc;⟨b,h4,hle _ _ h5⟩⟩)
 ·rcases old b c hb with h|⟨h1,h2⟩
  ·exact r.lo b c h
  ·constructor<;>intro<;>omega
 ·rcases old b c hb with h|⟨h1,h2⟩
  ·exact r.hi b c h
  ·constructor<;>intro<;>omega
inductive jt (κ:cd) (Z:Nat→Prop) (n n':Nat):List Fl→List de→Prop
 |nil:jt κ Z n n' [] []
 |cons (x:Fl) (y:de) (l:List Fl) (l':List de) (hx:Jx κ Z n n' x y) (hl:jt κ Z n n' l l'):jt κ Z n n' (x::l) (y::l')
theorem jt.mono {l:List Fl} {l':List de} (m:Sm ng κ Z s s') (e:Ext κ Z s s' κ₂ Z₂ s₂ bF) (r:jt κ Z s.n s'.n l l'):jt κ₂ Z₂ s₂.n bF.n l l':=by
 induction r with
 |nil=>exact .nil
 |cons x y l l' hx _ ih=>exact .cons _ _ _ _ (hx.mono m e) ih
theorem jt.append {n n':Nat} {a b:List Fl} {a' b':List de} (ha:jt κ Z n n' a a') (hb:jt κ Z n n' b b'):jt κ Z n n' (a++b) (a'++b'):=by
 induction ha with
 |nil=>exact hb
 |cons x y l l' hx _ ih=>exact .cons _ _ _ _ hx ih
theorem jt.reverse {n n':Nat} {a:List Fl} {a':List de} (ha:jt κ Z n n' a a'):jt κ Z n n' a.reverse a'.reverse:=by
 induction ha with
 |nil=>exact .nil
 |cons x y l l' hx _ ih=>
  simp only [List.reverse_cons]
  exact ih.append (.cons _ _ _ _ hx .nil)
theorem jt.get {n n':Nat} {a:List Fl} {a':List de} (ha:jt κ Z n n' a a'): ∀ {i:Nat} {y:de},a'[i]? =some y→ ∃x,a[i]? =some x∧Jx κ Z n n' x y:=by
 induction ha with
 |nil=>intro i y h;simp at h
 |cons x y l l' hx _ ih=>
  intro i z h
  cases i with
  |zero=>simp at h;subst h;exact ⟨x,rfl,hx⟩
  |succ i=>simp at h;simpa using ih h
def ZI (κ:cd) (Z:Nat→Prop) (l:List Fl):Prop:= ∀x∈l,∀ws,x.f.w=some ws→ ∀b∈ws,∀c,κ b=some c→Z c→(∃y∈l,b∈y.z)∨ ∃y∈l,y.f.w=none
theorem ZI.nil (κ:cd) (Z:Nat→Prop):ZI κ Z []:=fun x hx=>absurd hx (by simp)
theorem A8 {n n':Nat} {x x₂:Fl} {y y₂:de} (yC: ∀b b' c,κ b=some c→κ b'=some c→b=b') (r:Jx κ Z n n' x y) (r₂:Jx κ Z n n' x₂ y₂)
  (hz: ∀ws,x.f.w=some ws→ ∀b∈ws,∀c,κ b=some c→ ¬Z c) (hc:y.fF y₂=true):x.f.fF x₂.f=true:=by
 unfold de.fF at hc ⊢
 simp only [Bool.or_eq_true,tD] at hc ⊢
 have tne: ∀ {m:List Nat} {c:Nat},y₂.t=some m→c∈m→x₂.f.t≠some []:=fun {m c} hm hc he=>by
  have:=r₂.t
  unfold TR at this
  rw [he,hm] at this
  rcases this c hc with ⟨b,h1,_⟩|⟨_,h1⟩
  ·cases h1
  ·exact h1 rfl
 have Je:y₂.t=none→x₂.f.t=none:=fun he=>by
  have:=r₂.t
  unfold TR at this
  rw [he] at this
  cases hx:x₂.f.t with
  |none=>rfl
  |some l=>rw [hx] at this;exact this.elim
 have SO:y₂.t≠some []→x₂.f.t≠some []:=fun he=>by
  cases hy:y₂.t with
  |none=>rw [Je hy];simp
  |some m=>cases m with
   |nil=>exact absurd hy he
   |cons c m=>exact tne hy (by simp:c∈c::m)
 have S4:y₂.w≠some []→x₂.f.w≠some []:=fun he=>by
  rcases r₂.w with h|⟨h,_⟩|⟨l,m,h1,h2,h3⟩
  ·exact absurd h he
  ·rw [h];simp
  ·rw [h1];rintro e;cases e
   cases m with
   |nil=>exact he h2
   |cons c m=>obtain ⟨b,h4,_⟩:=h3 c (by simp);cases h4
 rcases r.w with hw|⟨Nb,Yx⟩|⟨l,m,Nb,Yx,hm⟩
 ·rw [hw] at hc
  simp at hc
 ·
  rw [Nb]
  rw [Yx] at hc
  rcases hc with (⟨_,h1,_⟩|⟨_,h1,_⟩)|h1
  ·exact .inl (.inl ⟨by simp,SO h1,.inl rfl⟩)
  ·exact .inl (.inr ⟨by simp,S4 h1,.inl rfl⟩)
  ·simp only [Nat.blt_eq] at h1
   rcases r₂.al h1 with h2|h2
   ·exact .inl (.inl ⟨by simp,by rw [h2];simp,.inl rfl⟩)
   ·exact .inr (by simpa [Nat.blt_eq] using h2)
 ·rw [Nb]
  rw [Yx] at hc
  rcases hc with (⟨h0,h1,h2⟩|⟨h0,h1,h2⟩)|h1
  ·
   have hl:l≠ []:=by
    rintro rfl
    cases m with
    |nil=>exact h0 rfl
    |cons c m=>obtain ⟨b,h4,_⟩:=hm c (by simp);cases h4
   refine .inl (.inl ⟨by simpa using hl,SO h1,?_⟩)
   rcases h2 with h2|h2|⟨l',m',c,h3,h4,h5,h6⟩
   ·cases h2
   ·exact .inr (.inl (Je h2))
   ·cases h3
    have ht:=r₂.t
    unfold TR at ht
    rw [h4] at ht
    obtain ⟨b,h7,h8⟩:=hm c h5
    cases hx:x₂.f.t with
    |none=>exact .inr (.inl rfl)
    |some k=>
     rw [hx] at ht
     rcases ht c h6 with ⟨b',h9,h10⟩|⟨h9,_⟩
     ·obtain rfl:=yC b b' c h8 h10
      exact .inr (.inr ⟨_,_,b,rfl,rfl,h7,h9⟩)
     ·exact absurd h9 (hz l Nb b h7 c h8)
  ·have hl:l≠ []:=by
    rintro rfl
    cases m with
    |nil=>exact h0 rfl
    |cons c m=>obtain ⟨b,h4,_⟩:=hm c (by simp);cases h4
   refine .inl (.inr ⟨by simpa using hl,S4 h1,?_⟩)
   rcases h2 with h2|h2|⟨l',m',c,h3,h4,h5,h6⟩
   ·cases h2
   ·rcases r₂.w with h|⟨h,_⟩|⟨_,_,_,h,_⟩
    ·exact absurd h h1
    ·exact .inr (.inl h)
    ·rw [h2] at h;cases h
   ·cases h3
    obtain ⟨b,h7,h8⟩:=hm c h5
    rcases r₂.w with h|⟨h,_⟩|⟨l₂,m₂,h9,h10,h11⟩
    ·exact absurd h h1
    ·exact .inr (.inl h)
    ·rw [h4] at h10;cases h10
     obtain ⟨b',h12,h13⟩:=h11 c h6
     obtain rfl:=yC b b' c h8 h13
     exact .inr (.inr ⟨_,_,b,rfl,h9,h7,h12⟩)
  ·simp only [List.any_eq_true,Bool.and_eq_true,Nat.ble_eq,Nat.blt_eq] at h1
   obtain ⟨c,h2,h3,h4⟩:=h1
   obtain ⟨b,h5,h6⟩:=hm c h2
   refine .inr ?_
   simp only [List.any_eq_true,Bool.and_eq_true,Nat.ble_eq,Nat.blt_eq]
   exact ⟨b,h5,(r₂.lo b c h6).1 h3,(r₂.hi b c h6).1 h4⟩
theorem Dh {n n':Nat} {ops:Array Oper} {l:List Fl} {l':List de} (yC: ∀b b' c,κ b=some c→κ b'=some c→b=b') (r:jt κ Z n n' l l') (hz:ZI κ Z l) (hd:jx ops l=true):
  je ops l'=true:=by
 unfold jx at hd
 simp only [Bool.and_eq_true] at hd
 obtain ⟨hd,Uw⟩:=hd
 unfold MF at Uw
 simp only [Bool.and_eq_true,Bool.or_eq_true] at Uw
 have XZ: ∀x∈l,∀ws,x.f.w=some ws→ ∀b∈ws,∀c,κ b=some c→ ¬Z c:=by
  intro x hx ws hw b hb c hk Lu
  rcases hz x hx ws hw b hb c hk Lu with ⟨y,h1,h2⟩|⟨y,h1,h2⟩
  ·have h3:=Uw.1
   rw [List.all_eq_true] at h3
   have h4:=h3 y h1
   split at h4
   ·rename_i he;rw [he] at h2;cases h2
   ·rename_i z hz
    rw [List.all_eq_true] at h4
    have h5:=h4 x hx
    have:Reach.meets x.f.w (some y.z)=true:=by
     rw [tD,hw]
     exact ⟨(by rintro e;cases e;cases hb),(by intro e;rw [Option.some.injEq] at e;rw [e] at h2;cases h2),.inr (.inr ⟨_,_,b,rfl,rfl,hb,h2⟩)⟩
    rw [this] at h5
    cases h5
  ·rcases Uw.2 with h3|h3
   ·rw [List.all_eq_true] at h3
    have:=h3 y h1
    rw [h2] at this;cases this
   ·rw [List.all_eq_true] at h3
    have:=h3 x hx
    rw [hw] at this
    cases ws with
    |nil=>cases hb
    |cons _ _=>cases this
 unfold je at hd ⊢
 rw [List.all_eq_true] at hd ⊢
 intro p hp
 obtain ⟨y,i⟩:=p
 rw [List.mem_zipIdx_iff_getElem?] at hp
 obtain ⟨x,hx,hxr⟩:=r.get hp
 have hxm:(x.f,i)∈(l.map (·.f)).zipIdx:=by
  rw [List.mem_zipIdx_iff_getElem?];simp [hx]
 have h1:=hd _ hxm
 simp only [] at h1 ⊢
 split
 ·rfl
 ·rename_i hne
  rw [List.all_eq_true]
  intro q hq
  obtain ⟨y₂,j⟩:=q
  rw [List.mem_zipIdx_iff_getElem?] at hq
  obtain ⟨x₂,hx₂,Yw⟩:=r.get hq
  have Yv:(x₂.f,j)∈(l.map (·.f)).zipIdx:=by
   rw [List.mem_zipIdx_iff_getElem?];simp [hx₂]
  simp only []
  cases hcl:y.fF y₂ with
  |false=>rfl
  |true=>
   have hm:x∈l:=List.mem_of_getElem? hx
   have h2:=A8 yC hxr Yw (XZ x hm) hcl
   have h3:x.f.w≠some []:=by
    intro e
    unfold de.fF at h2
    rw [e] at h2
    simp [Reach.meets] at h2
   split at h1
   ·rename_i e;exact absurd e h3
   ·rw [List.all_eq_true] at h1
    have h4:=h1 _ Yv
    simp only [h2] at h4
    simpa using h4
end Go.Vm.X
end
noncomputable section
namespace Go.Vm.X
open Go
variable {Z Z':Nat→Prop} {h h':Tr eI} {κ κ':cd} {ng:Nat} {s s₁ s₂ s₃:S} {s' bF vH:St} {κ₂ κ₃:cd} {Z₀ Z₂ Z₃:Nat→Prop} {T:Types}
theorem zt {v:V} {w:Value} (hv:R Z h κ v w) (hb:v≠ .bad): ∀c∈bC w,(∃b∈ag.aF v,κ b=some c)∨(Z c∧ag.aF v≠ []):=by
 intro c hc
 cases hv<;>simp only [bC,List.mem_cons,List.not_mem_nil,or_false] at hc<;>try (cases hc;done)
 ·exact absurd rfl hb
 ·subst hc;exact .inl ⟨_,List.mem_singleton.2 rfl,by assumption⟩
 ·subst hc;exact .inl ⟨_,List.mem_singleton.2 rfl,by assumption⟩
 ·subst hc;exact .inr ⟨by assumption,by simp [ag.aF]⟩
 ·subst hc;exact .inr ⟨by assumption,by simp [ag.aF]⟩
 ·subst hc;exact .inl ⟨_,List.mem_singleton.2 rfl,by assumption⟩
theorem xG {o:Op} {ρ:Operand→V} {ρ':Operand→Value} {r:gf} (hr:evalOp T ρ s o=some (r,s₂)) (hρ: ∀x∈o.operands,R Z h κ (ρ x) (ρ' x)):
  TR κ Z (ag ρ o) (Vm.ag ρ' o):=by
 have ex: ∀ {x:Operand},x∈o.operands→ρ x≠ .bad→TR κ Z (some (ag.aF (ρ x))) (some (bC (ρ' x))):=fun {x} hx hb=>zt (hρ x hx) hb
 cases o<;>try (exact fun c hc=>absurd hc (by simp))
 case load t a=>
  refine ex (by simp [Op.operands]) fun hb=> ?_
  simp only [evalOp,hb] at hr
  split at hr
  ·unfold one loadT at hr
   split at hr
   ·rename_i he
    split at he<;>simp [rd] at he
   ·cases hr
  ·cases hr
 case store t a x=>
  refine ex (by simp [Op.operands]) fun hb=> ?_
  simp only [evalOp,hb] at hr
  split at hr
  ·unfold three storeT at hr
   split at hr
   ·rename_i he
    split at he
    ·cases he
    ·rename_i e _;cases e
    ·cases he
   ·cases hr
  ·cases hr
 case lookup t x i ok=>
  refine ex (by simp [Op.operands]) fun hb=> ?_
  simp only [evalOp,hb] at hr
  unfold one fV at hr
  split at hr
  ·rename_i he
   split at he
   ·split at he
    ·split at he
     ·rename_i hm _;cases hm
     ·cases he
    ·cases he
   ·cases he
  ·cases hr
 case mapUpdate t m k v=>
  refine ex (by simp [Op.operands]) fun hb=> ?_
  simp only [evalOp,hb] at hr
  unfold three at hr
  split at hr
  ·rename_i hu
   unfold fj at hu
   split at hu
   ·cases hu
   ·split at hu
    ·split at hu
     ·rename_i e _;cases e
     ·cases hu
    ·cases hu
  ·cases hr
 case convert a b x=>
  refine ex (by simp [Op.operands]) fun hb=> ?_
  simp only [evalOp,hb] at hr
  unfold two df at hr
  split at hr
  ·rename_i he
   split at he
   ·rename_i e;cases e
   ·rename_i e;cases e
   ·split at he
    ·cases he
    ·cases he
   ·rename_i e;cases e
   ·cases he
  ·cases hr
 case call c=>
  simp only [ag,Vm.ag]
  cases hc:c.callee with
  |builtin b=>
   simp only []
   simp only [evalOp,dG,hc] at hr
   split at hr
   ·cases hr
   ·rename_i hnb
    intro d hd
    rw [List.mem_flatMap] at hd
    obtain ⟨x,hx,oO⟩:=hd
    have hx':x∈(Op.call c).operands:=by
     simp only [Op.operands,Call.operands,hc]
     simpa using hx
    have hb:ρ x≠ .bad:=fun e=>by
     have h1:(c.args.toList.map ρ).any dB=true:=by
      rw [List.any_eq_true]
      exact ⟨ρ x,List.mem_map.2 ⟨x,hx,rfl⟩,by rw [e];rfl⟩
     rw [h1] at hnb;cases hnb
    rcases zt (hρ x hx') hb d oO with ⟨b,h1,h2⟩|⟨h1,h2⟩
    ·exact .inl ⟨b,List.mem_flatMap.2 ⟨x,hx,h1⟩,h2⟩
    ·refine .inr ⟨h1,fun e=>h2 ?_⟩
     rw [List.flatMap_eq_nil_iff] at e
     exact e x hx
  |invoke _ _=>trivial
  |value f=>trivial
def Live (s:S) (b:Nat):Prop:= ∃o,s.h.get b=some o∧uL o=true
theorem mq {b o:Nat} {l:List V} (hw:fN s b o l=some s₂):Live s b:=by
 unfold fN at hw
 split at hw
 ·rename_i hb;exact ⟨_,hb,rfl⟩
 ·cases hw
theorem wx {te:TI} {e n len:Nat} {l pre:List V} {v:V} (hr:fresh te e n len l pre s=some (v,s₂)):s₂.wm=s.wm:=by
 unfold fresh at hr
 split at hr
 ·simp only [Option.some.injEq,Prod.mk.injEq] at hr;obtain ⟨rfl,rfl⟩:=hr;rfl
 ·cases hr
theorem mT {te:TI} {e:Nat} {x y v:V} (hr:cy te e s x y=some (v,s₂)) (hw:s₂.wm<s.wm): ∃b o l c z,x= .sl b o l c z∧Live s b:=by
 unfold cy at hr
 split at hr
 ·cases hr
 ·split at hr
  ·split at hr
   ·simp only [Option.some.injEq,Prod.mk.injEq] at hr;obtain ⟨rfl,rfl⟩:=hr;omega
   ·have:=wx hr;omega
  ·split at hr
   ·simp only [Option.some.injEq,Prod.mk.injEq] at hr;obtain ⟨rfl,rfl⟩:=hr;omega
   ·cases hr
  ·rename_i b o l c z
   refine ⟨b,o,l,c,z,rfl,?_⟩
   split at hr
   ·cases hr
   ·split at hr
    ·simp only [Option.some.injEq,Prod.mk.injEq] at hr;obtain ⟨rfl,rfl⟩:=hr;omega
    ·split at hr
     ·split at hr
      ·rename_i Yo;exact mq Yo
      ·cases hr
     ·split at hr
      ·split at hr
       ·have:=wx hr;omega
       ·cases hr
      ·rename_i hb;exact ⟨_,hb,rfl⟩
      ·cases hr
  ·cases hr
theorem vY {te:TI} {x y v:V} (hr:copyV te s x y=some (v,s₂)) (hw:s₂.wm<s.wm): ∃b o l c z,x= .sl b o l c z∧Live s b:=by
 unfold copyV at hr
 split at hr
 ·split at hr<;>first|(cases hr;done)|(simp only [Option.some.injEq,Prod.mk.injEq] at hr;obtain ⟨rfl,rfl⟩:=hr;omega)
 ·rename_i b o l c z
  refine ⟨b,o,l,c,z,rfl,?_⟩
  split at hr
  ·cases hr
  ·split at hr
   ·simp only [Option.some.injEq,Prod.mk.injEq] at hr;obtain ⟨rfl,rfl⟩:=hr;omega
   ·split at hr
    ·split at hr
     ·rename_i Yo;exact mq Yo
     ·cases hr
    ·cases hr
 ·cases hr
theorem nc {o:Option V} {r:gf} (hr:one o s=some (r,s₂)):s₂=s:=by
 unfold one at hr
 split at hr
 ·simp only [Option.some.injEq,Prod.mk.injEq] at hr;exact hr.2.symm
 ·cases hr
theorem hH {o:Option (V×S)} {r:gf} (hr:two o=some (r,s₂)): ∃v,o=some (v,s₂):=by
 unfold two at hr
 split at hr
 ·simp only [Option.some.injEq,Prod.mk.injEq] at hr;obtain ⟨_,rfl⟩:=hr;exact ⟨_,rfl⟩
 ·cases hr
theorem B5 {te:TI} {e:Nat} {x y v:V} (hr:fO te e s x y=some (v,s₂)):s₂.wm=s.wm:=by
 unfold fO at hr
 split at hr
 ·split at hr
  ·simp only [Option.some.injEq,Prod.mk.injEq] at hr;obtain ⟨_,rfl⟩:=hr;rfl
  ·cases hr
 ·cases hr
theorem qY {b:Builtin} {ts:List Nat} {args:List V} {r:gf} (hr:bI T b ts args s=some (r,s₂)) (hw:s₂.wm<s.wm): ∃b o l c z rest,args= .sl b o l c z::rest∧Live s b:=by
 have same: ∀ {r:gf},some (r,s)=some (r,s₂)→False:=fun h=>by
  simp only [Option.some.injEq,Prod.mk.injEq] at h;obtain ⟨_,rfl⟩:=h;omega
 unfold bI at hr
 split at hr
 ·split at hr<;>first|(cases hr;done)|(simp only [Option.some.injEq,Prod.mk.injEq] at hr;obtain ⟨_,rfl⟩:=hr;omega)|skip
  split at hr<;>first|(cases hr;done)|(simp only [Option.some.injEq,Prod.mk.injEq] at hr;obtain ⟨_,rfl⟩:=hr;omega)
 ·split at hr<;>first|(cases hr;done)|(simp only [Option.some.injEq,Prod.mk.injEq] at hr;obtain ⟨_,rfl⟩:=hr;omega)|skip
  split at hr<;>first|(cases hr;done)|(simp only [Option.some.injEq,Prod.mk.injEq] at hr;obtain ⟨_,rfl⟩:=hr;omega)
 ·split at hr
  ·split at hr
   ·cases hr
   ·obtain ⟨v,hv⟩:=hH hr
    obtain ⟨b,o,l,c,z,rfl,hl⟩:=mT hv hw
    exact ⟨b,o,l,c,z,_,rfl,hl⟩
   ·cases hr
  ·split at hr
   ·obtain ⟨v,hv⟩:=hH hr
    obtain ⟨b,o,l,c,z,rfl,hl⟩:=mT hv hw
    exact ⟨b,o,l,c,z,_,rfl,hl⟩
   ·cases hr
  ·split at hr
   ·obtain ⟨v,hv⟩:=hH hr
    have:=B5 hv;omega
   ·cases hr
  ·cases hr
 ·split at hr
  ·split at hr
   ·obtain ⟨v,hv⟩:=hH hr
    obtain ⟨b,o,l,c,z,rfl,hl⟩:=vY hv hw
    exact ⟨b,o,l,c,z,_,rfl,hl⟩
   ·cases hr
  ·cases hr
 ·have:=nc hr;subst this;omega
 ·have:=nc hr;subst this;omega
 ·cases hr
theorem wrote {o:Op} {ρ:Operand→V} {ρ':Operand→Value} {v:V} (hr:evalOp T ρ s o=some (.val v,s₂)) (hw:s₂.wm<s.wm) (hρ: ∀x∈o.operands,R Z h κ (ρ x) (ρ' x)):
  ∃b c,bA ρ o=some [b]∧Vm.bA ρ' o=some [c]∧κ b=some c∧Live s b:=by
 have same: ∀ {r r':gf},some (r,s)=some (r',s₂)→False:=fun h=>by
  simp only [Option.some.injEq,Prod.mk.injEq] at h;obtain ⟨_,rfl⟩:=h;omega
 have new: ∀ {r r':gf} {o:Obj},some (r,newObj s o)=some (r',s₂)→False:=fun h=>by
  simp only [Option.some.injEq,Prod.mk.injEq] at h;obtain ⟨_,rfl⟩:=h;simp [newObj] at hw
 cases o<;>simp only [evalOp] at hr<;>try first|(cases hr;done)|exact (same hr).elim|(have:=nc hr;subst this;omega)
 case pick c a b=>
  split at hr
  ·exact (same hr).elim
  ·exact (same hr).elim
  ·cases hr
 case alloc t=>
  split at hr
  ·exact (new hr).elim
  ·cases hr
 case box t x=>
  split at hr
  ·cases hr
  ·exact (new hr).elim
 case buildSlice t len ps=>
  obtain ⟨v,hv⟩:=hH hr
  unfold cI at hv
  split at hv
  ·split at hv
   ·split at hv
    ·split at hv
     ·simp only [Option.some.injEq,Prod.mk.injEq] at hv;obtain ⟨_,rfl⟩:=hv;simp [newObj] at hw
     ·cases hv
    ·cases hv
   ·cases hv
  ·cases hv
 case load t a=>
  split at hr
  ·have:=nc hr;subst this;omega
  ·cases hr
 case store t a x=>
  split at hr
  ·unfold three at hr
   split at hr
   ·rename_i s₁ hs
    simp only [Option.some.injEq,Prod.mk.injEq] at hr;obtain ⟨_,rfl⟩:=hr
    have ha:=hρ a (by simp [Op.operands])
    unfold storeT at hs
    split at hs
    ·cases hs
    ·rename_i b o e _
     split at hs
     ·have hlv:=mq hs
      rw [e] at ha
      generalize lu:ρ' a=c' at ha
      cases ha with
      |ptr _ _ _ c hk=>
       exact ⟨b,c,by simp only [bA,e,ag.aF],by simp only [Vm.bA,lu,bC],hk,hlv⟩
     ·cases hs
    ·cases hs
   ·cases hr
  ·cases hr
 case nilCheck x=>
  split at hr<;>first|(cases hr;done)|exact (same hr).elim
 case convert a b x=>
  obtain ⟨v,hv⟩:=hH hr
  unfold df at hv
  split at hv
  ·simp only [Option.some.injEq,Prod.mk.injEq] at hv;obtain ⟨_,rfl⟩:=hv;omega
  ·simp only [Option.some.injEq,Prod.mk.injEq] at hv;obtain ⟨_,rfl⟩:=hv;omega
  ·split at hv
   ·split at hv
    ·simp only [Option.some.injEq,Prod.mk.injEq] at hv;obtain ⟨_,rfl⟩:=hv;omega
    ·split at hv
     ·split at hv
      ·simp only [Option.some.injEq,Prod.mk.injEq] at hv;obtain ⟨_,rfl⟩:=hv;omega
      ·cases hv
     ·cases hv
    ·split at hv
     ·split at hv
      ·simp only [Option.some.injEq,Prod.mk.injEq] at hv;obtain ⟨_,rfl⟩:=hv;omega
      ·cases hv
     ·cases hv
    ·cases hv
   ·cases hv
  ·split at hv
   ·split at hv
    ·simp only [Option.some.injEq,Prod.mk.injEq] at hv;obtain ⟨_,rfl⟩:=hv;simp [newObj] at hw
    ·cases hv
   ·cases hv
  ·cases hv
 case makeFunc fn a b=>
  split at hr
  ·exact (same hr).elim
  ·cases hr
 case makeMap t r=>
  split at hr
  ·exact (new hr).elim
  ·cases hr
 case mapUpdate t m k v=>
  unfold three at hr
  split at hr
  ·rename_i s₁ hs
   simp only [Option.some.injEq,Prod.mk.injEq] at hr;obtain ⟨_,rfl⟩:=hr
   have ha:=hρ m (by simp [Op.operands])
   unfold fj at hs
   split at hs
   ·cases hs
   ·split at hs
    ·split at hs
     ·rename_i r _ _ _ _ e _
      rw [e] at ha
      generalize lu:ρ' m=c' at ha
      cases ha with
      |map _ _ c hk=>
       split at hs
       ·rename_i uD
        exact ⟨_,c,by simp only [bA,e,ag.aF],by simp only [Vm.bA,lu,bC],hk,_,uD,rfl⟩
       ·cases hs
     ·cases hs
    ·cases hs
  ·cases hr
 case makeSlice t l c=>
  obtain ⟨v,hv⟩:=hH hr
  unfold bQ at hv
  split at hv
  ·split at hv
   ·split at hv
    ·simp only [Option.some.injEq,Prod.mk.injEq] at hv;obtain ⟨_,rfl⟩:=hv;simp [newObj] at hw
    ·cases hv
   ·cases hv
  ·cases hv
 case slice t x lo hi mx=>
  split at hr
  ·cases hr
  ·have:=nc hr;subst this;omega
 case extract t i=>
  split at hr
  ·split at hr
   ·exact (same hr).elim
   ·cases hr
  ·cases hr
 case call c=>
  unfold dG at hr
  split at hr
  ·rename_i b hb
   split at hr
   ·cases hr
   ·obtain ⟨b',o,l,c',z,rest,h1,h2⟩:=qY hr hw
    cases hargs:c.args.toList with
    |nil=>rw [hargs] at h1;cases h1
    |cons x xs=>
     rw [hargs] at h1
     simp only [List.map_cons,List.cons.injEq] at h1
     have hx:=hρ x (by
      simp only [Op.operands,Call.operands,hb]
      have:x∈c.args.toList:=by rw [hargs];simp
      simpa using this)
     rw [h1.1] at hx
     generalize lu:ρ' x=y at hx
     cases hx with
     |sl _ _ _ _ _ _ d hk=>
      exact ⟨b',d,by simp only [bA,hb,hargs,h1.1,ag.aF],by simp only [Vm.bA,hb,hargs,lu,bC],hk,h2⟩
  ·cases hr
  ·split at hr
   ·cases hr
   ·cases hr
   ·cases hr
theorem calls {o:Op} {ρ:Operand→V} {r:gf} (hr:evalOp T ρ s o=some (r,s₂)) (hv: ∀v,r≠ .val v):s₂=s∧ ∃c f,o= .call c∧c.callee= .value f:=by
 have hone: ∀ {x:Option V},one x s=some (r,s₂)→False:=fun {x} h=>by
  unfold one at h
  split at h
  ·simp only [Option.some.injEq,Prod.mk.injEq] at h;exact hv _ h.1.symm
  ·cases h
 have Ei: ∀ {x:Option (V×S)},two x=some (r,s₂)→False:=fun {x} h=>by
  unfold two at h
  split at h
  ·simp only [Option.some.injEq,Prod.mk.injEq] at h;exact hv _ h.1.symm
  ·cases h
 have hsome: ∀ {v:V} {t:S},some (gf.val v,t)=some (r,s₂)→False:=fun h=>by
  simp only [Option.some.injEq,Prod.mk.injEq] at h;exact hv _ h.1.symm
 cases o<;>simp only [evalOp] at hr<;>try first|(cases hr;done)|exact (hsome hr).elim|exact (hone hr).elim|exact (Ei hr).elim
 case pick c a b=>split at hr<;>first|(cases hr;done)|exact (hsome hr).elim
 case alloc t=>split at hr<;>first|(cases hr;done)|exact (hsome hr).elim
 case box t x=>split at hr<;>first|(cases hr;done)|exact (hsome hr).elim
 case load t a=>split at hr<;>first|(cases hr;done)|exact (hone hr).elim
 case store t a x=>
  split at hr
  ·unfold three at hr
   split at hr
   ·exact (hsome hr).elim
   ·cases hr
  ·cases hr
 case nilCheck x=>split at hr<;>first|(cases hr;done)|exact (hsome hr).elim
 case makeFunc fn a b=>split at hr<;>first|(cases hr;done)|exact (hsome hr).elim
 case makeMap t r=>split at hr<;>first|(cases hr;done)|exact (hsome hr).elim
 case mapUpdate t m k v=>
  unfold three at hr
  split at hr
  ·exact (hsome hr).elim
  ·cases hr
 case slice t x lo hi mx=>split at hr<;>first|(cases hr;done)|exact (hone hr).elim
 case extract t i=>
  split at hr
  ·split at hr<;>first|(cases hr;done)|exact (hsome hr).elim
  ·cases hr
 case call c=>
  unfold dG at hr
  split at hr
  ·split at hr
   ·cases hr
   ·exfalso
    unfold bI at hr
    split at hr
    ·split at hr<;>first|(cases hr;done)|exact hsome hr|skip
     split at hr<;>first|(cases hr;done)|exact hsome hr
    ·split at hr<;>first|(cases hr;done)|exact hsome hr|skip
     split at hr<;>first|(cases hr;done)|exact hsome hr
    ·split at hr
     ·split at hr<;>first|(cases hr;done)|exact Ei hr
     ·split at hr<;>first|(cases hr;done)|exact Ei hr
     ·split at hr<;>first|(cases hr;done)|exact Ei hr
     ·cases hr
    ·split at hr
     ·split at hr<;>first|(cases hr;done)|exact Ei hr
     ·cases hr
    ·exact hone hr
    ·exact hone hr
    ·cases hr
  ·cases hr
  ·rename_i f hf
   split at hr
   ·simp only [Option.some.injEq,Prod.mk.injEq] at hr;exact ⟨hr.2.symm,c,f,rfl,hf⟩
   ·simp only [Option.some.injEq,Prod.mk.injEq] at hr;exact ⟨hr.2.symm,c,f,rfl,hf⟩
   ·cases hr
end Go.Vm.X
end
noncomputable section
namespace Go.Vm.X
open Go
variable {Z Z':Nat→Prop} {h h':Tr eI} {κ κ':cd} {ng:Nat} {s s₁ s₂ s₃:S} {s' bF vH:St} {κ₂ κ₃:cd} {Z₀ Z₂ Z₃:Nat→Prop} {T:Types} {fr ic:F} {fr' ei:Fr}
inductive Ms (κ:cd):List Nat→List Nat→Prop
 |nil:Ms κ [] []
 |cons (a b:Nat) (l l':List Nat) (h:κ a=some b) (hl:Ms κ l l'):Ms κ (a::l) (b::l')
theorem Ms.mono {l l':List Nat} (hm:Ms κ l l') (hk:κ.le κ'):Ms κ' l l':=by
 induction hm with
 |nil=>exact .nil
 |cons a b l l' h _ ih=>exact .cons _ _ _ _ (hk _ _ h) ih
structure qQ (ng:Nat) (κ:cd) (Z:Nat→Prop) (fr:F) (fr':Fr):Prop where
 env:mJ Z fr'.s.h κ fr.e fr'.e
 nt:fr.nt=fr'.nt
 sm:Sm ng κ Z fr.s fr'.s
 ms:Ms κ fr.ms fr'.ms
theorem Sm.Ja (m:Sm ng κ Z s s') {a b:Nat} (ha:a≤s.n) (hb:b≤s'.n):Sm ng κ Z { s with wm:=a } { s' with wm:=b } :=
 ⟨m.obj,m.lt,m.inj,m.sep,m.FH,⟨ha,hb⟩,m.gl,m.fz⟩
theorem least_le: ∀(l:List Nat) (n:Nat),least l n≤n∧ ∀b∈l,least l n≤b
 | [],n=>⟨Nat.le_refl _,fun b hb=>absurd hb (by simp)⟩
 |a::l,n=>by
  obtain ⟨h1,h2⟩:=least_le l (min a n)
  refine ⟨by simp only [least];omega,fun b hb=> ?_⟩
  rcases List.mem_cons.1 hb with rfl|hb
  ·simp only [least];omega
  ·exact h2 b hb
theorem Bj (m:Sm ng κ Z s s') {L:List Nat} {W:Nat} (hZ: ∀c,Z c→Z₀ c) (T0: ∀c,Z₀ c→Zb κ Z L c) (h1:s₁.n=s.n) (e:Ext κ Z₀ s₁ { s' with wm:=s'.n } κ₂ Z₂ s₂ bF) (hW:W≤min s.wm s₂.wm)
  (hL: ∀b∈L,W≤b):Ext κ Z s s' κ₂ Z₂ { s₂ with wm:=W } { bF with wm:=min s'.wm bF.wm } :=by
 refine ⟨by have:=e.n;simp only [];omega,e.nv,fun b hb=>e.BE b (by omega),fun b c h2 h3=>e.new b c (by omega) h3,fun c hc=>e.Cp c (hZ c hc),fun c hc=>e.km c (hZ c hc),fun c hc=> ?_,by simp only [];omega,fun b₀ c₀ P0 h2 h3=> ?_⟩
 ·rcases e.B6 c hc with h2|h2|⟨b,h2,h3⟩
  ·rcases T0 c h2 with h4|⟨b,h4,h5⟩
   ·exact .inl h4
   ·exact .inr (.inr ⟨b,h5,hL b h4⟩)
  ·exact .inr (.inl h2)
  ·exact .inr (.inr ⟨b,h2,by simp only [];omega⟩)
 ·simp only [] at h2 ⊢
  have h4:=m.wm.2
  have:=e.Nl b₀ c₀ P0 (by omega) (by simp only [];omega)
  omega
theorem AB (bX:qQ ng κ Z fr fr') (Nk:Sm ng κ₂ Z₂ s₂ bF) (e:Ext κ Z fr.s fr'.s κ₂ Z₂ s₂ bF) {v:V} {w:Value} (hv:R Z₂ bF.h κ₂ v w) {d:Option Nat} (hp:put fr d v s₂=some ic):
  ∃ei,Vm.put fr' d w bF=some ei∧qQ ng κ₂ Z₂ ic ei∧ic.s=s₂∧ei.s=bF:=by
 have hle:=e.le bX.sm
 have kD:=bX.env.mono e.Cp e.km hle
 unfold put at hp
 unfold Vm.put
 cases d with
 |none=>cases hp;exact ⟨_,rfl,⟨kD,bX.nt,Nk,bX.ms.mono hle⟩,rfl,rfl⟩
 |some d=>
  simp only [] at hp ⊢
  split at hp
  ·rename_i hlt
   cases hp
   rw [bX.nt] at hlt
   exact ⟨{ fr' with e:=fr'.e.set d w,s:=bF },by simp only [hlt],⟨kD.set d hv,bX.nt,Nk,bX.ms.mono hle⟩,rfl,rfl⟩
  ·cases hp
def MJ (κ:cd):Option Nat→Option Nat→Prop
 |none,none=>True
 |some l,some l'=>κ l=some l'
 |_,_=>False
theorem MJ.mono {a b:Option Nat} (hr:MJ κ a b) (hk:κ.le κ'):MJ κ' a b:=by
 cases a<;>cases b<;>first|trivial|exact hk _ _ hr|exact hr
def vL (ng:Nat) (rec:Rec) (cL:Vm.Rec):Prop:= ∀c ro fr r,rec (.code c ro fr)=some r→ ∀κ Z gx fr',codeOk ng c=true→qQ ng κ Z fr fr'→MJ κ ro gx→
 ∃x ic κ₂ Z₂ ei,r= .code x ic∧cL (.code c gx fr')=some (.code x ei)∧Ext κ Z fr.s fr'.s κ₂ Z₂ ic.s ei.s∧qQ ng κ₂ Z₂ ic ei
def CB (ng:Nat) (rec:Rec) (cL:Vm.Rec):Prop:= ∀ops dr fl l fr r,rec (.run ops dr fl l fr)=some r→ ∀κ Z og fr',qQ ng κ Z fr fr'→l.all (gk ng)=true→
 (dr=true→jt κ Z fr.s.n fr'.s.n fl og∧ZI κ Z fl)→
 ∃ic κ₂ Z₂ ei,r= .code .normal ic∧cL (.run ops dr og l fr')=some (.code .normal ei)∧Ext κ Z fr.s fr'.s κ₂ Z₂ ic.s ei.s∧qQ ng κ₂ Z₂ ic ei
def vK (ng:Nat) (rec:Rec) (cL:Vm.Rec):Prop:= ∀f args s r,rec (.call f args s)=some r→ ∀κ Z args' s',Sm ng κ Z s s'→Rs Z s'.h κ args args'→(s.n≤s.wm→s'.n≤s'.wm)→
 ∃v s₂ κ₂ Z₂ w bF,r= .val v s₂∧cL (.call f args' s')=some (.val w bF)∧Ext κ Z s s' κ₂ Z₂ s₂ bF∧Sm ng κ₂ Z₂ s₂ bF∧R Z₂ bF.h κ₂ v w
def xW (ng:Nat) (rec:Rec) (cL:Vm.Rec):Prop:= ∀l args s r,rec (.round l args s)=some r→ ∀κ Z l' args' s',Sm ng κ Z s s'→κ l=some l'→Rs Z s'.h κ args args'→
 ∃v s₂ κ₂ Z₂ w bF,r= .val v s₂∧cL (.round l' args' s')=some (.val w bF)∧Ext κ Z s s' κ₂ Z₂ s₂ bF∧Sm ng κ₂ Z₂ s₂ bF∧R Z₂ bF.h κ₂ v w
theorem oX (fr:F) (o:Oper) (v:V) (s:S) (c:F→Bool→Nat→Option ep):done fr o v s c=mV fr o v [] s c:=rfl
theorem finish {rec:Rec} {cL:Vm.Rec} (hrun:CB ng rec cL) {ops:Array Oper} {dr:Bool} {fl:List Fl} {og:List de} {o:Oper} {l:List Oper} (bX:qQ ng κ Z fr fr') (hok:l.all (gk ng)=true)
  (hfl:dr=true→jt κ Z fr.s.n fr'.s.n fl og∧ZI κ Z fl) {L:List Nat} (hZ: ∀c,Z c→Z₀ c) (T0: ∀c,Z₀ c→Zb κ Z L c) (h1:s₁.n=fr.s.n)
  (e:Ext κ Z₀ s₁ { fr'.s with wm:=fr'.s.n } κ₂ Z₂ s₂ bF) (Nk:Sm ng κ₂ Z₂ s₂ bF) {v:V} {w:Value} (hv:R Z₂ bF.h κ₂ v w) {tX tV:Reach} {wX wV:Bool→Reach}
  (ht:TR κ Z tX tV) (hw: ∀b b':Bool,b=Nat.blt s₂.wm fr.s.n→(b'=true→b=true)→WR κ (wX b) (wV b'))
  (Yq:s₂.wm<fr.s.n→wX true=none∨ ∀c,Z₂ c→Z₀ c) (D1: ∀ws,wX (Nat.blt s₂.wm fr.s.n)=some ws→ ∀b∈ws,b<fr.s.n∧ ∀c,κ b=some c→ ¬Z₂ c)
  (hal:fr'.s.n<bF.n→tX=none∨fr.s.n<s₂.n) {r:ep}
  (hr:mV fr o v L s₂ (fun fr' wr m=>rec (.run ops dr (cQ dr ⟨⟨tX,wX wr,fr.s.n,m⟩,L⟩ fl) l fr'))=some r):
  ∃ic κ₂ Z₂ ei,r= .code .normal ic∧Vm.done fr' o w bF (fun WB wr m=>cL (.run ops dr (Vm.cQ dr ⟨tV,wV wr,fr'.s.n,m⟩ og) l WB))=some (.code .normal ei)∧
   Ext κ Z fr.s fr'.s κ₂ Z₂ ic.s ei.s∧qQ ng κ₂ Z₂ ic ei:=by
 unfold mV at hr
 split at hr
 ·cases hr
 ·rename_i gB hput
  obtain ⟨pX,uF⟩:=least_le L (min fr.s.wm s₂.wm)
  have E:=Bj bX.sm hZ T0 h1 e pX uF
  have Yp:=bX.sm.wm
  have acu:=Nk.wm
  have SM:Sm ng κ₂ Z₂ { s₂ with wm:=least L (min fr.s.wm s₂.wm) } { bF with wm:=min fr'.s.wm bF.wm } :=Nk.Ja (by omega) (by omega)
  obtain ⟨iy,Ak,wG,wP,Ee⟩:=AB bX SM E hv hput
  have hen:=e.n
  have kD:=e.nv
  simp only [] at kD
  have HL:Nat.blt bF.wm fr'.s.n=true→Nat.blt s₂.wm fr.s.n=true:=fun hb=>by
   cases hx:Nat.blt s₂.wm fr.s.n with
   |true=>rfl
   |false=>
    exfalso
    have h2: ¬s₂.wm<fr.s.n:=fun h=>by rw [←Nat.blt_eq,hx] at h;cases h
    have h3:=e.Nl fr.s.n fr'.s.n (fun b c gY hle=>e.new b c (by omega) gY) (by omega) (Nat.le_refl _)
    rw [Nat.blt_eq] at hb
    omega
  have hle:=E.le bX.sm
  have KL:dr=true→jt κ₂ Z₂ gB.s.n iy.s.n (cQ dr ⟨⟨tX,wX (Nat.blt s₂.wm fr.s.n),fr.s.n,s₂.n⟩,L⟩ fl) (Vm.cQ dr ⟨tV,wV (Nat.blt bF.wm fr'.s.n),fr'.s.n,bF.n⟩ og)∧
    ZI κ₂ Z₂ (cQ dr ⟨⟨tX,wX (Nat.blt s₂.wm fr.s.n),fr.s.n,s₂.n⟩,L⟩ fl):=by
   intro uB
   subst uB
   obtain ⟨hf1,hf2⟩:=hfl rfl
   simp only [cQ,Vm.cQ]
   rw [wP,Ee]
   constructor
   ·refine .cons _ _ _ _ ?_ (hf1.mono bX.sm E)
    refine ⟨?_,?_,fun b c hb=> ?_,fun b c hb=> ?_,hal,⟨by simp only [];omega,by simp only [];omega,by simp only [];omega,by simp only [];omega⟩,fun ws ko b hb=> ?_⟩
    ·unfold TR at ht ⊢
     split at ht
     ·trivial
     ·intro c hc
      rcases ht c hc with ⟨b,k1,k2⟩|⟨k1,k2⟩
      ·exact .inl ⟨b,k1,hle _ _ k2⟩
      ·exact .inr ⟨E.Cp c k1,k2⟩
     ·exact ht
    ·rcases hw _ _ rfl HL with k|k|⟨a,b,k1,k2,k3⟩
     ·exact .inl k
     ·exact .inr (.inl k)
     ·exact .inr (.inr ⟨a,b,k1,k2,fun c hc=>let ⟨x,k4,k5⟩:=k3 c hc;⟨x,k4,hle _ _ k5⟩⟩)
    ·simp only []
     by_cases FP:b<fr.s.n
     ·have h2:=E.BE b FP
      rw [h2] at hb
      have:=bX.sm.lt b c hb
      constructor<;>intro<;>omega
     ·have:=E.new b c (by omega) hb
      constructor<;>intro<;>omega
    ·simp only []
     have:=Nk.lt b c hb
     constructor<;>intro<;>omega
    ·have:=(D1 ws ko b hb).1
     simp only [];omega
   ·intro x hx ws ko b hb c hk hz
    rcases List.mem_cons.1 hx with rfl|hx
    ·obtain ⟨k1,k2⟩:=D1 ws ko b hb
     rw [E.BE b k1] at hk
     exact absurd hz (k2 c hk)
    ·have FP:b<fr.s.n:=by
      clear hput Ak wG hr
      have: ∀ {l:List Fl} {l':List de},jt κ Z fr.s.n fr'.s.n l l'→x∈l→b<fr.s.n:=by
       intro l l' hh
       induction hh with
       |nil=>intro h;cases h
       |cons a a' l l' ha _ ih=>
        intro h
        rcases List.mem_cons.1 h with rfl|h
        ·exact ha.wlt ws ko b hb
        ·exact ih h
      exact this hf1 hx
     rw [E.BE b FP] at hk
     have hold:Z c→(∃y∈(⟨⟨tX,wX (Nat.blt s₂.wm fr.s.n),fr.s.n,s₂.n⟩,L⟩::fl:List Fl),b∈y.z)∨ ∃y∈(⟨⟨tX,wX (Nat.blt s₂.wm fr.s.n),fr.s.n,s₂.n⟩,L⟩::fl:List Fl),y.f.w=none:=fun Lu=>by
      rcases hf2 x hx ws ko b hb c hk Lu with ⟨y,k1,k2⟩|⟨y,k1,k2⟩
      ·exact .inl ⟨y,List.mem_cons_of_mem _ k1,k2⟩
      ·exact .inr ⟨y,List.mem_cons_of_mem _ k1,k2⟩
     have HB:Z₀ c→(∃y∈(⟨⟨tX,wX (Nat.blt s₂.wm fr.s.n),fr.s.n,s₂.n⟩,L⟩::fl:List Fl),b∈y.z)∨ ∃y∈(⟨⟨tX,wX (Nat.blt s₂.wm fr.s.n),fr.s.n,s₂.n⟩,L⟩::fl:List Fl),y.f.w=none:=fun Lu=>by
      rcases T0 c Lu with k|⟨b',k1,k2⟩
      ·exact hold k
      ·obtain rfl:=bX.sm.inj b' b c k2 hk
       exact .inl ⟨_,List.mem_cons_self,k1⟩
     rcases e.B6 c hz with k|k|⟨b',k1,k2⟩
     ·exact HB k
     ·have:=bX.sm.lt b c hk
      simp only [] at k;omega
     ·obtain rfl:=bX.sm.inj b' b c k1 hk
      have hlt:s₂.wm<fr.s.n:=by omega
      rcases Yq hlt with k|k
      ·refine .inr ⟨_,List.mem_cons_self,?_⟩
       have gY:Nat.blt s₂.wm fr.s.n=true:=by rw [Nat.blt_eq];exact hlt
       simp only [gY];exact k
      ·exact HB (k c hz)
  obtain ⟨ic,κ₃,Z₃,ei,k1,k2,k3,k4⟩:=hrun _ _ _ _ _ _ hr κ₂ Z₂ _ iy wG hok KL
  rw [wP,Ee] at k3
  refine ⟨ic,κ₃,Z₃,ei,k1,?_,E.trans k3 SM,k4⟩
  unfold Vm.done
  rw [Ak]
  exact k2
end Go.Vm.X
end
