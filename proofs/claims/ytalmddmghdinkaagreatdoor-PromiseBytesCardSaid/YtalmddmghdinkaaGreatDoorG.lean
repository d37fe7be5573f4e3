/-
  A part of the proof of PromiseBytes: lemmas, in short letters, printed by a program out of the longer texts; conditions: those that each lemma names.
-/
import Derived.Test.YtalmddmghdinkaaGreatDoorF
set_option linter.all false
set_option linter.deprecated false
noncomputable section
namespace Go.Vm.X
open Go
variable {Z Z':Nat→Prop} {h h':Tr eI} {κ κ':cd} {ng:Nat} {s s₂ s₃:S} {s' bF vH:St} {κ₂ κ₃:cd} {Z₂ Z₃:Nat→Prop} {T:Types}
theorem oH (m:Sm ng κ Z s s') {b c:Nat} {o₀ o:Obj} {o':eI} (hb:s.h.get b=some o₀) (hl:uL o₀=true) (hk:κ b=some c) (ho:AS ng Z s'.h κ o o') (X3: ∀cs e bL,o≠ .cells cs e bL false:=by intro _ _ _ h;cases h):
  fP κ Z s s' κ Z { s with h:=s.h.set b o,wm:=min s.wm b } { s' with h:=s'.h.set c o',wm:=min s'.wm c } ∧
  Sm ng κ Z { s with h:=s.h.set b o,wm:=min s.wm b } { s' with h:=s'.h.set c o',wm:=min s'.wm c } :=by
 have hz: ¬Z c:=m.sep b o₀ c hb hl hk
 have hh: ∀d,Z d→(s'.h.set c o').get d=s'.h.get d:=fun d hd=>Tr.aK _ _ (fun e=>hz (e ▸ hd))
 have KT: ∀d,Z d→Z d:=fun _ h=>h
 refine ⟨⟨⟨Nat.le_refl _,Nat.le_refl _,fun _ _=>rfl,fun b c h1 h2=> ?_,KT,hh,fun _ h=> .inl h,Nat.min_le_left _ _,fun b₀ c₀ hc h1 h2=> ?_⟩,.inl rfl⟩,⟨fun d od e h1 h2=> ?_,m.lt,m.inj,fun d od e h1 h2 h3=> ?_,m.FH,?_,m.gl,fun d cs e bL f h1 h2=> ?_⟩⟩
 ·have:=m.lt b c h2;omega
 ·have h3:b₀≤b:=Nat.le_trans h1 (Nat.min_le_right _ _)
  have:=hc b c hk h3
  simp only [];omega
 ·simp only [] at h1 ⊢
  by_cases hd:d=b
  ·subst hd
   rw [Tr.aQ] at h1
   cases h1
   rw [hk] at h2;cases h2
   exact ⟨o',Tr.aQ _ _ _,ho.mono KT hh (cd.le_refl _)⟩
  ·rw [Tr.aK _ _ hd] at h1
   obtain ⟨Rv,h3,h4⟩:=m.obj d od e h1 h2
   have he:e≠c:=fun x=>hd (m.inj d b c (x ▸ h2) hk)
   exact ⟨Rv,by rw [Tr.aK _ _ he];exact h3,h4.mono KT hh (cd.le_refl _)⟩
 ·simp only [] at h1
  by_cases hd:d=b
  ·subst hd;rw [hk] at h3;cases h3;exact hz
  ·rw [Tr.aK _ _ hd] at h1;exact m.sep d od e h1 h2 h3
 ·have:=m.wm;simp only [];omega
 ·simp only [] at h1
  by_cases hd:d=b
  ·subst hd
   rw [Tr.aQ] at h1
   cases h1
   exact absurd rfl (X3 _ _ _)
  ·rw [Tr.aK _ _ hd] at h1
   exact m.fz d cs e bL f h1 h2
def cd.add (κ:cd) (b c:Nat):cd:=fun x=>if x=b then some c else κ x
theorem cd.add_same (κ:cd) (b c:Nat):κ.add b c b=some c:=by simp [cd.add]
theorem cd.di (κ:cd) {b x:Nat} (c:Nat) (hx:x≠b):κ.add b c x=κ x:=by simp [cd.add,hx]
theorem oS (m:Sm ng κ Z s s'):κ.le (κ.add s.n s'.n):=fun b c hb=>by
 have:=m.lt b c hb
 rw [cd.di _ _ (by omega)];exact hb
theorem ir (m:Sm ng κ Z s s') {o:Obj} {o':eI} (ho:AS ng Z s'.h (κ.add s.n s'.n) o o') (X3: ∀cs e bL,o≠ .cells cs e bL false:=by intro _ _ _ h;cases h):
  fP κ Z s s' (κ.add s.n s'.n) Z (newObj s o) (Vm.newObj s' o')∧Sm ng (κ.add s.n s'.n) Z (newObj s o) (Vm.newObj s' o'):=by
 have hh: ∀d,Z d→(s'.h.set s'.n o').get d=s'.h.get d:=fun d hd=>Tr.aK _ _ (by have:=m.FH d hd;omega)
 have KT: ∀d,Z d→Z d:=fun _ h=>h
 refine ⟨⟨⟨by simp [newObj],by simp [Vm.newObj],fun b hb=>cd.di _ _ (by omega),fun b c h1 h2=> ?_,KT,hh,fun _ h=> .inl h,Nat.le_refl _,fun b₀ c₀ _ _ h2=>h2⟩,.inr (by simp [newObj])⟩,
  ⟨fun d od e h1 h2=> ?_,fun b c h1=> ?_,fun b b' c h1 h2=> ?_,fun d od e h1 h2 h3=> ?_,fun c hc=>by have:=m.FH c hc;simp [Vm.newObj];omega,by have:=m.wm;simp [newObj,Vm.newObj];omega,fun g hg=> ?_,fun d cs e bL f h1 h2=> ?_⟩⟩
 ·by_cases hb:b=s.n
  ·subst hb;rw [cd.add_same] at h2;cases h2;exact Nat.le_refl _
  ·rw [cd.di _ _ hb] at h2;have:=m.lt b c h2;omega
 ·simp only [newObj,Vm.newObj] at h1 ⊢
  by_cases hd:d=s.n
  ·subst hd
   rw [Tr.aQ] at h1;cases h1
   rw [cd.add_same] at h2;cases h2
   exact ⟨o',Tr.aQ _ _ _,ho.mono KT hh (cd.le_refl _)⟩
  ·rw [Tr.aK _ _ hd] at h1
   rw [cd.di _ _ hd] at h2
   obtain ⟨Rv,h3,h4⟩:=m.obj d od e h1 h2
   have:=m.lt d e h2
   exact ⟨Rv,by rw [Tr.aK _ _ (by omega)];exact h3,h4.mono KT hh (oS m)⟩
 ·simp only [newObj,Vm.newObj]
  by_cases hb:b=s.n
  ·subst hb;rw [cd.add_same] at h1;cases h1;omega
  ·rw [cd.di _ _ hb] at h1;have:=m.lt b c h1;omega
 ·by_cases hb:b=s.n
  ·by_cases gY:b'=s.n
   ·omega
   ·subst hb;rw [cd.add_same] at h1;cases h1
    rw [cd.di _ _ gY] at h2;have:=m.lt b' _ h2;omega
  ·rw [cd.di _ _ hb] at h1
   by_cases gY:b'=s.n
   ·subst gY;rw [cd.add_same] at h2;cases h2;have:=m.lt b _ h1;omega
   ·rw [cd.di _ _ gY] at h2;exact m.inj b b' c h1 h2
 ·simp only [newObj] at h1
  intro hz
  have:=m.FH e hz
  by_cases hd:d=s.n
  ·subst hd;rw [cd.add_same] at h3;cases h3;omega
  ·rw [Tr.aK _ _ hd] at h1
   rw [cd.di _ _ hd] at h3
   exact m.sep d od e h1 h2 h3 hz
 ·have:=m.lt g g (m.gl g hg)
  rw [cd.di _ _ (by omega)];exact m.gl g hg
 ·simp only [newObj] at h1
  by_cases hd:d=s.n
  ·subst hd
   rw [Tr.aQ] at h1
   cases h1
   exact absurd rfl (X3 _ _ _)
  ·rw [Tr.aK _ _ hd] at h1
   rw [cd.di _ _ hd] at h2
   exact m.fz d cs e bL f h1 h2
theorem pK (m:Sm ng κ Z s s') {b o n c:Nat} {l:List V} (hr:jl s b o n=some l) (hk:κ b=some c):
  ∃l',cW s' c o n=some l'∧Rs Z s'.h κ l l':=by
 unfold jl at hr
 split at hr
 ·rename_i cs e bL own hb
  split at hr
  ·rename_i hle
   cases hr
   obtain ⟨o',h1,vs,fJ,rfl,h2,_⟩:=m.obj b _ c hb hk
   unfold cW
   rw [h1]
   simp only [←h2.length,hle]
   exact ⟨_,rfl,(h2.drop _).take _⟩
  ·cases hr
 ·cases hr
theorem lS {cs:List V} {vs:List Value} {c o n e:Nat} {bL own:Bool} (hc:s'.h.get c=some (.cells vs e bL own)) (hl:o+cs.length≤vs.length)
  (hr:Rs Z h mQ cs ((vs.drop o).take cs.length)) (hn:n≤cs.length):cW s' c o n=some ((vs.drop o).take n)∧Rs Z h κ (cs.take n) ((vs.drop o).take n):=by
 constructor
 ·unfold cW
  rw [hc]
  have:Nat.ble (o+n) vs.length=true:=by simp [Nat.ble_eq];omega
  simp only [this]
 ·have:=(hr.take n).up (κ:=κ)
  rwa [List.take_take,Nat.min_eq_left hn] at this
theorem nM {n:Nat} {cs l:List V} (ht:takeN n cs=some l):n≤cs.length∧l=cs.take n:=by
 unfold takeN at ht
 split at ht
 ·rename_i hle;cases ht;exact ⟨by simpa [Nat.ble_eq] using hle,rfl⟩
 ·cases ht
theorem E6 (m:Sm ng κ Z s s') {p:V} {p':Value} {n:Nat} {l:List V} (hr:rd s p n=some l) (hp:R Z s'.h κ p p'):
  ∃c o l',p'= .pointer (some ⟨c,o,none⟩)∧cW s' c o n=some l'∧Rs Z s'.h κ l l':=by
 unfold rd at hr
 cases hp<;>simp only [] at hr<;>try (cases hr;done)
 ·rename_i b o c hb
  obtain ⟨l',h1,h2⟩:=pK m hr hb
  exact ⟨c,o,l',rfl,h1,h2⟩
 ·rename_i cs c o vs e bL own hz hc hl nU
  obtain ⟨h1,rfl⟩:=nM hr
  obtain ⟨h2,h3⟩:=lS (κ:=κ) hc hl nU h1
  exact ⟨c,o,_,rfl,h2,h3⟩
theorem tC (m:Sm ng κ Z s s') {t:TI} {p:V} {p':Value} {v:V} (hr:loadT t s p=some v) (hp:R Z s'.h κ p p'):
  ∃a w,p'= .pointer (some a)∧Vm.loadT t s' a=some w∧R Z s'.h κ v w:=by
 unfold loadT at hr
 unfold Vm.loadT
 cases ha:t.isAgg with
 |true=>
  rw [ha] at hr
  simp only [] at hr
  split at hr
  ·rename_i l hl
   cases hr
   obtain ⟨c,o,l',rfl,h1,h2⟩:=E6 m hl hp
   exact ⟨_,.agg ⟨l'⟩,rfl,by simp only [h1],.agg _ _ _ h2⟩
  ·cases hr
 |false=>
  rw [ha] at hr
  simp only [] at hr
  split at hr
  ·rename_i v₁ l hl
   cases hr
   obtain ⟨c,o,l',rfl,h1,h2⟩:=E6 m hl hp
   cases h2 with
   |cons _ _ w _ l' h3 _=>exact ⟨_,w,rfl,by simp only [h1],h3⟩
  ·cases hr
theorem nQ (m:Sm ng κ Z s s') {b o c:Nat} {vs:List V} {ws:List Value} (hr:fN s b o vs=some s₂) (hk:κ b=some c) (hv:Rs Z s'.h κ vs ws):
  ∃bF,eW s' c o ws=some bF∧fP κ Z s s' κ Z s₂ bF∧Sm ng κ Z s₂ bF∧s₂.wm≤b:=by
 unfold fN at hr
 split at hr
 ·rename_i cs e bL hb
  split at hr
  ·rename_i hle
   cases hr
   obtain ⟨o',h1,us,fJ,rfl,h2,h3⟩:=m.obj b _ c hb hk
   have h4:=h3 rfl
   subst h4
   simp only [Bool.and_eq_true] at hle
   unfold eW
   rw [h1]
   simp only [←h2.length,←hv.length,hle.1,hv.aR hle.2,Bool.and_self]
   obtain ⟨k1,k2⟩:=oH m hb rfl hk (o:= .cells (bY cs o vs) e bL true) (o':= .cells (Vm.bY us o ws) e bL true) ⟨_,true,rfl,h2.bY hv o,fun _=>rfl⟩
   exact ⟨_,rfl,k1,k2,Nat.min_le_right _ _⟩
  ·cases hr
 ·cases hr
theorem ze (m:Sm ng κ Z s s') {t:TI} {p v:V} {p' w:Value} (hr:storeT t s p v=some s₂) (hp:R Z s'.h κ p p') (hv:R Z s'.h κ v w):
  ∃a bF,p'= .pointer (some a)∧Vm.storeT t s' a w=some bF∧fP κ Z s s' κ Z s₂ bF∧Sm ng κ Z s₂ bF:=by
 have hb:v≠ .bad:=by
  rintro rfl
  unfold storeT at hr
  cases p<;>cases hr
 have Al: ∃b o,p= .ptr b o∧Nat.beq (bc v).length t.size=true∧fN s b o (bc v)=some s₂:=by
  unfold storeT at hr
  split at hr
  ·cases hr
  ·split at hr
   ·exact ⟨_,_,rfl,by assumption,hr⟩
   ·cases hr
  ·cases hr
 obtain ⟨b,o,rfl,h1,h2⟩:=Al
 cases hp with
 |ptr _ _ _ c hk=>
  have hc:=hv.bc hb
  obtain ⟨bF,h3,h4,h5,_⟩:=nQ m h2 hk hc
  refine ⟨_,bF,rfl,?_,h4,h5⟩
  unfold Vm.storeT
  rw [←hc.length,h1]
  exact h3
theorem xe {t:TI} {cs:List V} {vs:List Value} {off:Nat} {v:V} (hr:part t cs off=some v) (hc:Rs Z h κ cs vs): ∃w,Vm.part t vs off=some w∧R Z h κ v w:=by
 unfold part at hr
 unfold Vm.part
 cases ha:t.isAgg with
 |true=>
  rw [ha] at hr
  simp only [] at hr
  split at hr
  ·rename_i hle
   cases hr
   simp only [←hc.length,hle]
   exact ⟨_,rfl,.agg _ _ _ ((hc.drop _).take _)⟩
  ·cases hr
 |false=>
  rw [ha] at hr
  simp only [] at hr
  split at hr
  ·rename_i v₁ l hl
   cases hr
   have:=hc.drop off
   rw [hl] at this
   generalize vs.drop off=ws at this ⊢
   cases this with
   |cons _ _ w _ l' h3 _=>exact ⟨w,rfl,h3⟩
  ·cases hr
inductive Ns (Z:Nat→Prop) (h:Tr eI) (κ:cd):List (Nat×V)→List (Nat×Value)→Prop
 |nil:Ns Z h κ [] []
 |cons (i:Nat) (v:V) (w:Value) (l:List (Nat×V)) (l':List (Nat×Value)) (hv:R Z h κ v w) (hl:Ns Z h κ l l'):Ns Z h κ ((i,v)::l) ((i,w)::l')
theorem pg {place:Nat→Option (Nat×Nat)} {ps:List (Nat×V)} {ps':List (Nat×Value)} (hp:Ns Z h κ ps ps'): ∀ {cs l:List V} {vs:List Value},fG place cs ps=some l→Rs Z h κ cs vs→
  ∃l',Vm.fG place vs ps'=some l'∧Rs Z h κ l l':=by
 induction hp with
 |nil=>intro cs l vs hr hc;simp only [fG] at hr;cases hr;exact ⟨vs,rfl,hc⟩
 |cons i v w ps ps' hv _ ih=>
  intro cs l vs hr hc
  unfold fG at hr
  unfold Vm.fG
  split at hr
  ·cases hr
  ·rename_i off size Bw
   rw [Bw]
   simp only []
   split at hr
   ·cases hr
   ·rename_i hb
    split at hr
    ·rename_i hle
     have Un:=hv.bc hb
     rw [Un.length,hc.length] at hle
     simp only [hle]
     exact ih hr (hc.bY Un off)
    ·cases hr
theorem Rs.bz {z:List V} {z':List Value} (hz:Rs Z h κ z z'): ∀n,Rs Z h κ (bz n z) (Vm.bz n z')
 |0=> .nil _
 |n+1=>hz.append (Rs.bz hz n)
theorem Rs.ofBytes: ∀l:List UInt8,Rs Z h κ (ofBytes l) (Vm.ofBytes l)
 | []=> .nil _
 |_::l=> .cons _ _ _ _ _ (.int _ _ _) (Rs.ofBytes l)
theorem mi: ∀ {l:List V} {l':List Value} {bs:List UInt8},eH l=some bs→Rs Z h κ l l'→Vm.eH l'=some bs
 | [],_,_,hr,hl=>by cases hl;simpa [eH,Vm.eH] using hr
 |v::l,_,_,hr,hl=>by
  cases hl with
  |cons _ _ w _ l' hv hl=>
   unfold eH at hr
   split at hr
   ·rename_i e;cases e
   ·rename_i n r e
    cases e
    cases hv
    split at hr
    ·rename_i bs Hp
     cases hr
     have:=mi Hp hl
     simp only [Vm.eH,this]
    ·cases hr
   ·cases hr
theorem tz (m:Sm ng κ Z s s') {te:TI} {y:V} {y':Value} {n:Nat} {l:List V} (hr:items te s y=some (n,l)) (hy:R Z s'.h κ y y'):
  ∃l',Vm.items te s' y'=some (n,l')∧Rs Z s'.h κ l l':=by
 unfold items at hr
 cases hy<;>simp only [] at hr<;>try (cases hr;done)
 ·rename_i st
  split at hr
  ·rename_i hz
   cases hr
   exact ⟨_,by simp only [Vm.items,hz],Rs.ofBytes _⟩
  ·cases hr
 ·cases hr;exact ⟨[],rfl,.nil _⟩
 ·rename_i b o n₁ cap z c hb
  split at hr
  ·rename_i l₁ hl
   cases hr
   obtain ⟨l',h1,h2⟩:=pK m hl hb
   exact ⟨l',by simp only [Vm.items,h1],h2⟩
  ·cases hr
 ·rename_i cs n₁ c o cap vs e bL own hz hc hl hcap nU
  split at hr
  ·rename_i l₁ ht
   cases hr
   obtain ⟨h1,rfl⟩:=nM ht
   obtain ⟨h2,h3⟩:=lS (κ:=κ) hc hl nU h1
   exact ⟨_,by simp only [Vm.items,h2],h3⟩
  ·cases hr
theorem lK {x:Option V} {most dflt n:Nat} (hr:bound x most dflt=some n) (hd:dflt≤most):n≤most:=by
 unfold bound at hr
 split at hr
 ·cases hr;exact hd
 ·split at hr
  ·cases hr;omega
  ·cases hr
 ·cases hr
end Go.Vm.X
end
noncomputable section
namespace Go.Vm.X
open Go
variable {Z Z':Nat→Prop} {h h':Tr eI} {κ κ':cd} {ng:Nat} {s s₂ s₃:S} {s' bF vH:St} {κ₂ κ₃:cd} {Z₂ Z₃:Nat→Prop} {T:Types}
theorem pj (m:Sm ng κ Z s s') {te:TI} {e n len:Nat} {l pre:List V} {l' EY:List Value} {v:V} (hr:fresh te e n len l pre s=some (v,s₂)) (hl:Rs Z s'.h κ l l') (hp:Rs Z s'.h κ pre EY):
  (Nat.ble ((len+n)*te.bytes) 140737488355328 && Nat.blt 0 te.bytes && Nat.beq l'.length (n*te.size) && l'.all scalar)=true∧
  fP κ Z s s' (κ.add s.n s'.n) Z s₂ (Vm.newObj s' (.cells (EY++l') e true true))∧Sm ng (κ.add s.n s'.n) Z s₂ (Vm.newObj s' (.cells (EY++l') e true true))∧
  R Z (Vm.newObj s' (.cells (EY++l') e true true)).h (κ.add s.n s'.n) v (.slice (some ⟨s'.n,0,none⟩) (len+n) (len+n)):=by
 unfold fresh at hr
 split at hr
 ·rename_i hc
  simp only [Option.some.injEq,Prod.mk.injEq] at hr
  obtain ⟨rfl,rfl⟩:=hr
  simp only [Bool.and_eq_true] at hc
  obtain ⟨⟨⟨h1,h2⟩,h3⟩,h4⟩:=hc
  have hk:=oS m
  obtain ⟨k1,k2⟩:=ir m (o:= .cells (pre++l) e true true) (o':= .cells (EY++l') e true true) ⟨_,true,rfl,(hp.append hl).mono (fun _ h=>h) (fun _ _=>rfl) hk,fun _=>rfl⟩
  refine ⟨?_,k1,k2,.sl _ _ _ _ _ _ _ (cd.add_same _ _ _)⟩
  rw [←hl.length,h1,h2,h3,hl.aR h4];rfl
 ·cases hr
theorem pS (m:Sm ng κ Z s s') {te:TI} {e:Nat} {x y v:V} {x' y':Value} (hr:cy te e s x y=some (v,s₂)) (hx:R Z s'.h κ x x') (hy:R Z s'.h κ y y'):
  ∃κ₂ w bF,Vm.cy te e s' x' y'=some (w,bF)∧fP κ Z s s' κ₂ Z s₂ bF∧Sm ng κ₂ Z s₂ bF∧R Z bF.h κ₂ v w:=by
 unfold cy at hr
 split at hr
 ·cases hr
 ·rename_i n l hit
  obtain ⟨l',KV,hl⟩:=tz m hit hy
  unfold Vm.cy
  rw [KV]
  simp only []
  cases hx<;>simp only [] at hr<;>try (cases hr;done)
  ·
   cases n with
   |zero=>simp only [Option.some.injEq,Prod.mk.injEq] at hr;obtain ⟨rfl,rfl⟩:=hr;exact ⟨κ,_,s',rfl,fP.refl m,m,.ah _⟩
   |succ n=>
    simp only [] at hr
    obtain ⟨h1,h2,h3,h4⟩:=pj m hr hl (.nil _)
    simp only [Nat.zero_add,List.nil_append] at h1 h2 h3 h4
    simp only [h1]
    exact ⟨_,_,_,rfl,h2,h3,h4⟩
  ·
   rename_i b o len cap z c hk
   split at hr
   ·cases hr
   ·rename_i hle
    simp only [hle]
    cases n with
    |zero=>simp only [Option.some.injEq,Prod.mk.injEq] at hr;obtain ⟨rfl,rfl⟩:=hr;exact ⟨κ,_,s',rfl,fP.refl m,m,.sl _ _ _ _ _ _ _ hk⟩
    |succ n=>
     simp only [] at hr ⊢
     split at hr
     ·rename_i hfit
      simp only [hfit]
      split at hr
      ·rename_i s₁ hw
       simp only [Option.some.injEq,Prod.mk.injEq] at hr;obtain ⟨rfl,rfl⟩:=hr
       obtain ⟨bF,h1,h2,h3,_⟩:=nQ m hw hk hl
       simp only [h1]
       exact ⟨κ,_,bF,rfl,h2,h3,.sl _ _ _ _ _ _ _ hk⟩
      ·cases hr
     ·rename_i hfit
      simp only [hfit]
      split at hr
      ·rename_i cs e' own hb
       split at hr
       ·rename_i hlen
        obtain ⟨o',h1,us,fJ,rfl,h2,h3⟩:=m.obj b _ c hb hk
        obtain ⟨k1,k2,k3,k4⟩:=pj m hr hl ((h2.drop o).take (len*te.size))
        simp only [k1,h1]
        rw [h2.length] at hlen
        simp only [hlen]
        exact ⟨_,_,_,rfl,k2,k3,k4⟩
       ·cases hr
      ·rename_i cs e' hb
       split at hr
       ·rename_i jh
        obtain ⟨o',h1,us,fJ,rfl,h2,h3⟩:=m.obj b _ c hb hk
        have h4:=h3 rfl
        subst h4
        obtain ⟨x1,m1⟩:=oH m hb rfl hk (o:= .dead) (o':= .dead) trivial
        split at hr
        ·rename_i r bX
         cases hr
         have hz: ∀d,Z d→(s'.h.set c .dead).get d=s'.h.get d:=fun d hd=>x1.1.km d hd
         obtain ⟨k1,k2,k3,k4⟩:=pj m1 bX (hl.mono (fun _ h=>h) hz (cd.le_refl _)) (h2.mono (fun _ h=>h) hz (cd.le_refl _))
         simp only [k1,h1]
         rw [h2.length] at jh
         simp only [jh]
         exact ⟨_,_,_,rfl,x1.trans k2 m1,k3,k4⟩
        ·cases hr
       ·cases hr
      ·cases hr
  ·
   rename_i cs len c o cap vs e' bL own hz hc hlen hcap nU
   split at hr
   ·simp only [Option.some.injEq,Prod.mk.injEq] at hr;obtain ⟨rfl,rfl⟩:=hr
    have:Nat.ble len cap=true:=by simpa [Nat.ble_eq] using hcap
    simp only [this]
    exact ⟨κ,_,s',rfl,fP.refl m,m,.iL _ _ _ _ _ _ _ _ _ _ hz hc hlen hcap nU⟩
   ·cases hr
theorem Ba (m:Sm ng κ Z s s') {te:TI} {x y v:V} {x' y':Value} (hr:copyV te s x y=some (v,s₂)) (hx:R Z s'.h κ x x') (hy:R Z s'.h κ y y'):
  ∃κ₂ w bF,Vm.copyV te s' x' y'=some (w,bF)∧fP κ Z s s' κ₂ Z s₂ bF∧Sm ng κ₂ Z s₂ bF∧R Z bF.h κ₂ v w:=by
 unfold copyV at hr
 unfold Vm.copyV
 cases hx<;>simp only [] at hr<;>try (cases hr;done)
 ·cases hy<;>simp only [] at hr<;>first|(cases hr;done)|(simp only [Option.some.injEq,Prod.mk.injEq] at hr;obtain ⟨rfl,rfl⟩:=hr;exact ⟨κ,_,s',rfl,fP.refl m,m,.int _ _ _⟩)
 ·rename_i b o len cap z c hk
  split at hr
  ·cases hr
  ·rename_i n l hit
   obtain ⟨l',KV,hl⟩:=tz m hit hy
   simp only [KV]
   split at hr
   ·rename_i K2
    simp only [Option.some.injEq,Prod.mk.injEq] at hr;obtain ⟨rfl,rfl⟩:=hr
    simp only [K2]
    exact ⟨κ,_,s',rfl,fP.refl m,m,.int _ _ _⟩
   ·rename_i k K2
    simp only [K2]
    split at hr
    ·rename_i hlen
     rw [hl.length] at hlen
     simp only [hlen]
     split at hr
     ·rename_i s₁ hw
      simp only [Option.some.injEq,Prod.mk.injEq] at hr;obtain ⟨rfl,rfl⟩:=hr
      obtain ⟨bF,h1,h2,h3,_⟩:=nQ m hw hk (hl.take _)
      simp only [h1]
      exact ⟨κ,_,bF,rfl,h2,h3,.int _ _ _⟩
     ·cases hr
    ·cases hr
theorem rL {gt:Bool} : ∀ {l:List V} {l':List Value} {x v:V} {x':Value},ju gt x l=some v→R Z h κ x x'→Rs Z h κ l l'→ ∃w,Vm.ju gt x' l'=some w∧R Z h κ v w
 | [],_,x,v,x',hr,hx,hl=>by
  cases hl
  unfold ju at hr
  cases hx<;>simp only [] at hr<;>try (cases hr;done)
  cases hr
  exact ⟨_,rfl,.int _ _ _⟩
 |y::l,_,x,v,x',hr,hx,hl=>by
  cases hl with
  |cons _ _ y' _ l' hy hl=>
   unfold ju at hr
   cases hx<;>try (cases hr;done)
   cases hy<;>try (cases hr;done)
   simp only [] at hr
   obtain ⟨w,h1,h2⟩:=rL hr (.int _ _ _) hl
   exact ⟨w,by simp only [Vm.ju];exact h1,h2⟩
theorem pD {o:Option Value} {v:V} (hr:lift o=some v): ∃w,o=some w∧R Z h κ v w:=by
 unfold lift at hr
 split at hr
 ·rename_i w;cases hr;exact ⟨w,rfl,R.gb w⟩
 ·cases hr
theorem AN {t:TI} {x y:V} {x' y':Value} {b:Bool} (hr:sH t x y=some b) (hx:R Z h κ x x') (hy:R Z h κ y y'):Vm.sH t x' y'=some b:=by
 unfold sH at hr
 unfold Vm.sH
 cases hk:t.kind<;>rw [hk] at hr<;>cases hx<;>simp only [] at hr<;>first|(cases hr;done)|(cases hy<;>simp only [] at hr<;>first|(cases hr;done)|(cases hr;rfl)|exact hr)
theorem AM {t:TI} {x y:V} {x' y':Value} {b:Bool} (hr:sH t x y=some b) (hx:R Z h κ x x') (hy:R Z h κ y y'):
  Vm.bin .eql (some t) x' y'=(match Vm.sH t x' y' with|some b=>some (.bool b)|none=>none)∧Vm.bin .neq (some t) x' y'=(match Vm.sH t x' y' with|some b=>some (.bool (!b))|none=>none):=by
 unfold sH at hr
 cases hk:t.kind<;>rw [hk] at hr<;>cases hx<;>simp only [] at hr<;>first|(cases hr;done)|(cases hy<;>simp only [] at hr<;>first|(cases hr;done)|exact ⟨rfl,rfl⟩)
theorem G0 {op:BinOp} {t:Option TI} {x y v:V} {x' y':Value} (hr:bin op t x y=some v) (hx:R Z h κ x x') (hy:R Z h κ y y'): ∃w,Vm.bin op t x' y'=some w∧R Z h κ v w:=by
 unfold bin at hr
 split at hr
 ·cases hx;cases hy
  rename_i k a k' b
  obtain ⟨w,h1,h2⟩:=pD (Z:=Z) (h:=h) (κ:=κ) hr
  refine ⟨w,?_,h2⟩
  rw [←h1]
  cases op<;>rfl
 ·cases hx;cases hy
  obtain ⟨w,h1,h2⟩:=pD (Z:=Z) (h:=h) (κ:=κ) hr
  exact ⟨w,h1,h2⟩
 ·split at hr
  ·split at hr
   ·rename_i b hv
    cases hr
    rw [(AM hv hx hy).1,AN hv hx hy]
    exact ⟨_,rfl,.bool _ _⟩
   ·cases hr
  ·split at hr
   ·rename_i b hv
    cases hr
    rw [(AM hv hx hy).2,AN hv hx hy]
    exact ⟨_,rfl,.bool _ _⟩
   ·cases hr
  ·cases hr
theorem Mu {op:UnOp} {x v:V} {x':Value} (hr:un op x=some v) (hx:R Z h κ x x'): ∃w,Vm.un op x'=some w∧R Z h κ v w:=by
 unfold un at hr
 cases hx<;>simp only [] at hr<;>first|(cases hr;done)|exact pD hr
theorem wy {cs:List V} {vs:List Value} {o n:Nat} (hr:Rs Z h mQ cs ((vs.drop o).take cs.length)):Rs Z h mQ (cs.drop n) ((vs.drop (o+n)).take (cs.drop n).length):=by
 have:=hr.drop n
 rwa [List.drop_take,List.drop_drop,←List.length_drop] at this
theorem oY {cs:List V} {c o n e:Nat} {vs:List Value} {bL own:Bool} {v:V} (hd:mW n cs=some v) (hz:Z c) (hc:h.get c=some (.cells vs e bL own)) (hl:o+cs.length≤vs.length)
  (hr:Rs Z h mQ cs ((vs.drop o).take cs.length)):R Z h κ v (.pointer (some ⟨c,o+n,none⟩)):=by
 unfold mW at hd
 split at hd
 ·rename_i hle
  cases hd
  have hle:n≤cs.length:=by simpa [Nat.ble_eq] using hle
  exact .dS _ _ _ _ _ _ _ _ hz hc (by rw [List.length_drop];omega) (wy hr)
 ·cases hd
def qe (Z:Nat→Prop) (h:Tr eI) (κ:cd) (o:Option V) (o':Option Value):Prop:=
 match o,o' with
 |none,none=>True
 |some v,some w=>R Z h κ v w
 |_,_=>False
theorem eF {x:Option V} {x':Option Value} {most most' dflt n:Nat} (hr:bound x most dflt=some n) (hx:qe Z h κ x x') (hm:most≤most'):Vm.bound x' most' dflt=some n:=by
 cases x with
 |none=>cases x' with
  |none=>exact hr
  |some _=>exact hx.elim
 |some v=>cases x' with
  |none=>exact hx.elim
  |some w=>
   have hv:R Z h κ v w:=hx
   unfold bound at hr
   cases hv<;>simp only [] at hr<;>try (cases hr;done)
   split at hr
   ·rename_i hi
    cases hr
    rename_i i
    have:(0:Int)≤i∧i≤(most':Int):=⟨hi.1,by omega⟩
    simp only [Vm.bound,if_pos this]
   ·cases hr
theorem sj {cs:List V} {z len cap:Nat} {lo hi mx:Option V} {lo' hi' uR:Option Value} {v:V} (hr:jq z len cs lo hi mx=some v) (hlo:qe Z h κ lo lo') (nF:qe Z h κ hi hi') (rA:qe Z h κ mx uR)
  {c o e:Nat} {vs:List Value} {bL own:Bool} (hcap:len≤cap) (hz:Z c) (hc:h.get c=some (.cells vs e bL own)) (hl:o+cs.length≤vs.length)
  (nU:Rs Z h mQ cs ((vs.drop o).take cs.length)):
  ∃m hh l,Vm.bound uR cap cap=some m∧Vm.bound hi' m len=some hh∧Vm.bound lo' hh 0=some l∧Nat.ble hh m=true∧R Z h κ v (.slice (some ⟨c,o+l*z,none⟩) (hh - l) (m - l)):=by
 unfold jq at hr
 split at hr
 ·cases hr
 ·rename_i m₀ hm
  split at hr
  ·cases hr
  ·rename_i hh IK
   split at hr
   ·rename_i l Bt hle
    cases hr
    simp only [Bool.and_eq_true,Nat.ble_eq] at hle
    have hm0:m₀≤len:=lK hm (Nat.le_refl _)
    have T9:l≤hh:=lK Bt (Nat.zero_le _)
    have ⟨m,Qn,M3⟩: ∃m,Vm.bound uR cap cap=some m∧m₀≤m:=by
     cases mx with
     |none=>
      cases uR with
      |none=>exact ⟨cap,rfl,by omega⟩
      |some _=>exact rA.elim
     |some u=>
      refine ⟨m₀,eF (dflt:=cap) ?_ rA hcap,Nat.le_refl _⟩
      unfold bound at hm ⊢
      cases u<;>simp only [] at hm ⊢ <;>first|(cases hm;done)|exact hm
    refine ⟨m,hh,l,Qn,eF IK nF M3,eF Bt hlo (Nat.le_refl _),by simp only [Nat.ble_eq];omega,?_⟩
    have hmul:l*z≤hh*z:=Nat.mul_le_mul_right _ T9
    refine .iL _ _ _ _ _ _ _ _ _ _ hz hc ?_ (by omega) ?_
    ·simp only [List.length_drop,List.length_take];omega
    ·have h1:=(nU.take (hh*z)).drop (l*z)
     rw [List.take_take,Nat.min_eq_left hle.2,List.drop_take (l:=List.drop o vs),List.drop_drop] at h1
     have h2:((cs.take (hh*z)).drop (l*z)).length=hh*z - l*z:=by
      simp only [List.length_drop,List.length_take];omega
     rw [h2];exact h1
   ·cases hr
theorem yZ {t:Nat} {x v:V} {x':Value} {lo hi mx:Option V} {lo' hi' uR:Option Value} (hr:fh T t x lo hi mx=some v) (hx:R Z h κ x x') (hlo:qe Z h κ lo lo') (nF:qe Z h κ hi hi') (rA:qe Z h κ mx uR):
  ∃w,Vm.fh T t x' lo' hi' uR=some w∧R Z h κ v w:=by
 have own: ∀ {z n cap b o c:Nat} {te:TI} (hk:κ b=some c),(match bound mx cap cap with
       |none=>none
       |some m=>match bound hi m n with
        |none=>none
        |some h=>match bound lo h 0,Nat.ble h m with
         |some l,true=>some (V.sl b (o+l*te.size) (h - l) (m - l) z)
         |_,_=>none)=some v→ ∃w,(match Vm.bound uR cap cap with
       |none=>none
       |some m=>match Vm.bound hi' m n with
        |none=>none
        |some h=>match Vm.bound lo' h 0,Nat.ble h m with
         |some l,true=>some (Value.slice (some ⟨c,o+l*te.size,none⟩) (h - l) (m - l))
         |_,_=>none)=some w∧R Z h κ v w:=by
  intro z n cap b o c te hk hr
  split at hr
  ·cases hr
  ·rename_i m hm
   split at hr
   ·cases hr
   ·rename_i hh IK
    split at hr
    ·rename_i l Bt hle
     cases hr
     simp only [eF hm rA (Nat.le_refl _),eF IK nF (Nat.le_refl _),eF Bt hlo (Nat.le_refl _),hle]
     exact ⟨_,rfl,.sl _ _ _ _ _ _ _ hk⟩
    ·cases hr
 unfold fh at hr
 unfold Vm.fh
 split at hr
 ·cases hr
 ·rename_i ti BB
  rw [BB]
  simp only []
  cases hkd:ti.kind<;>rw [hkd] at hr<;>cases hx<;>simp only [] at hr<;>try (cases hr;done)
  ·
   split at hr
   ·cases hr
   ·split at hr
    ·cases hr
    ·rename_i hh IK
     split at hr
     ·cases hr
     ·rename_i l Bt
      cases hr
      cases uR with
      |some _=>exact rA.elim
      |none=>
       simp only [eF IK nF (Nat.le_refl _),eF Bt hlo (Nat.le_refl _)]
       exact ⟨_,rfl,.str _ _⟩
  ·
   rename_i e
   split at hr
   ·cases hr
   ·rename_i te ej
    simp only [ej]
    split at hr
    ·cases hr
    ·rename_i m hm
     split at hr
     ·cases hr
     ·rename_i hh IK
      split at hr
      ·rename_i l Bt hle
       cases hr
       have e1:m≤0:=lK hm (Nat.le_refl _)
       have e2:hh≤0:=Nat.le_trans (lK IK (Nat.zero_le _)) e1
       have e3:l≤0:=Nat.le_trans (lK Bt (Nat.zero_le _)) e2
       obtain rfl:m=0:=by omega
       obtain rfl:hh=0:=by omega
       obtain rfl:l=0:=by omega
       simp only [eF hm rA (Nat.le_refl _),eF IK nF (Nat.le_refl _),eF Bt hlo (Nat.le_refl _),hle]
       exact ⟨_,rfl,.ah _⟩
      ·cases hr
  ·rename_i e b o len cap z c hk
   split at hr
   ·cases hr
   ·rename_i te ej
    simp only [ej]
    exact own hk hr
  ·rename_i e cs len c o cap vs e' bL ow hz hc hl hcap nU
   split at hr
   ·cases hr
   ·rename_i te ej
    simp only [ej]
    obtain ⟨m,hh,l,h1,h2,h3,h4,h5⟩:=sj hr hlo nF rA hcap hz hc hl nU
    simp only [h1,h2,h3,h4]
    exact ⟨_,rfl,h5⟩
  ·rename_i n e b o c hk
   split at hr
   ·cases hr
   ·rename_i te ej
    simp only [ej]
    exact own hk hr
  ·rename_i n e cs c o vs e' bL ow hz hc hl nU
   split at hr
   ·cases hr
   ·rename_i te ej
    simp only [ej]
    obtain ⟨m,hh,l,h1,h2,h3,h4,h5⟩:=sj hr hlo nF rA (Nat.le_refl _) hz hc hl nU
    simp only [h1,h2,h3,h4]
    exact ⟨_,rfl,h5⟩
end Go.Vm.X
end
noncomputable section
namespace Go.Vm.X
open Go
variable {Z Z':Nat→Prop} {h h':Tr eI} {κ κ':cd} {ng:Nat} {s s₂ s₃:S} {s' bF vH:St} {κ₂ κ₃:cd} {Z₂ Z₃:Nat→Prop} {T:Types}
theorem rE {t:Nat} {x i v:V} {x' i':Value} (hr:ek T t x i=some v) (hx:R Z h κ x x') (hi:R Z h κ i i'): ∃w,Vm.ek T t x' i'=some w∧R Z h κ v w:=by
 unfold ek at hr
 unfold Vm.ek
 split at hr
 ·rename_i ht
  cases hx;cases hi
  rename_i hk
  simp only [ht]
  split at hr
  ·rename_i te ej
   simp only [ej]
   split at hr
   ·rename_i hc
    cases hr
    simp only [if_pos hc]
    exact ⟨_,rfl,.ptr _ _ _ _ hk⟩
   ·cases hr
  ·cases hr
 ·rename_i ht
  cases hi
  cases hx with
  |iL _ _ _ c₁ o₁ abV vs₁ e₁ ZW Zn hz Hu hl hcap nU=>
   simp only [ht]
   split at hr
   ·rename_i te ej
    simp only [ej]
    split at hr
    ·rename_i hc
     simp only [if_pos hc]
     exact ⟨_,rfl,oY hr hz Hu hl nU⟩
    ·cases hr
   ·cases hr
 ·rename_i ht
  cases hx;cases hi
  rename_i hk
  simp only [ht]
  split at hr
  ·rename_i te ej
   simp only [ej]
   split at hr
   ·rename_i hc
    cases hr
    simp only [if_pos hc]
    exact ⟨_,rfl,.ptr _ _ _ _ hk⟩
   ·cases hr
  ·cases hr
 ·rename_i ht
  cases hi
  cases hx with
  |dS _ _ c₁ o₁ vs₁ e₁ ZW Zn hz Hu hl nU=>
   simp only [ht]
   split at hr
   ·rename_i te ej
    simp only [ej]
    split at hr
    ·rename_i hc
     simp only [if_pos hc]
     exact ⟨_,rfl,oY hr hz Hu hl nU⟩
    ·cases hr
   ·cases hr
 ·cases hr
theorem yF {t:Nat} {x i v:V} {x' i':Value} (hr:ij T t x i=some v) (hx:R Z h κ x x') (hi:R Z h κ i i'): ∃w,Vm.ij T t x' i'=some w∧R Z h κ v w:=by
 unfold ij at hr
 unfold Vm.ij
 split at hr
 ·rename_i ht
  cases hx;cases hi
  rename_i hl
  simp only [ht]
  split at hr
  ·rename_i te ej
   simp only [ej]
   split at hr
   ·rename_i hc
    simp only [if_pos hc]
    exact xe hr hl
   ·cases hr
  ·cases hr
 ·rename_i ht
  cases hx;cases hi
  simp only [ht]
  split at hr
  ·rename_i hc
   simp only [if_pos hc]
   split at hr
   ·rename_i b r hb
    cases hr
    simp only [hb]
    exact ⟨_,rfl,.int _ _ _⟩
   ·cases hr
  ·cases hr
 ·cases hr
theorem ph: ∀ {es:List (V×V)} {es':List (Value×Value)} {q:IntKind} {a:Int} {f:Option V},eQ (.int q a) es=some f→Ps Z h κ es es'→
  ∃f',Vm.eQ (.int q a) es'=some f'∧qe Z h κ f f'
 | [], [],_,_,_,hr,_=>by
  simp only [eQ] at hr
  cases hr
  exact ⟨none,rfl,trivial⟩
 |(k,v)::es,(k',v')::es',q,a,f,hr,⟨h1,h2,h3⟩=>by
  unfold eQ at hr
  unfold Vm.eQ
  cases h1<;>simp only [] at hr<;>try (cases hr;done)
  simp only []
  split at hr
  ·rename_i hq
   rw [if_pos hq]
   split at hr
   ·rename_i ha
    cases hr
    rw [if_pos ha]
    exact ⟨some v',rfl,h2⟩
   ·rename_i ha
    rw [if_neg ha]
    exact ph hr h3
  ·cases hr
 | [],_::_,_,_,_,_,h=>h.elim
 |(_,_)::_, [],_,_,_,_,h=>h.elim
theorem wW (m:Sm ng κ Z s s') {t:Nat} {x k v:V} {x' k':Value} {ok:Bool} (hr:fV T t s x k ok=some v) (hx:R Z s'.h κ x x') (hk:R Z s'.h κ k k'):
  ∃w,Vm.fV T t s' x' k' ok=some w∧R Z s'.h κ v w:=by
 unfold fV at hr
 unfold Vm.fV
 split at hr
 ·rename_i ht
  simp only [ht]
  split at hr
  ·rename_i h1 h2
   simp only [h1,h2]
   split at hr
   ·rename_i es q a uD
    cases hk
    have ⟨es',KF,T5⟩: ∃es',Vm.rI s' x'=some es'∧Ps Z s'.h κ es es':=by
     unfold rI at uD
     cases hx<;>simp only [] at uD<;>try (cases uD;done)
     ·cases uD;exact ⟨[],rfl,trivial⟩
     ·rename_i b c hb
      split at uD
      ·rename_i es₀ own hm
       cases uD
       obtain ⟨o',h3,es',fJ,rfl,h4,_⟩:=m.obj b _ c hm hb
       exact ⟨es',by simp only [Vm.rI,h3],h4⟩
      ·cases uD
    simp only [KF]
    split at hr
    ·rename_i f hf
     cases hr
     obtain ⟨f',h3,h4⟩:=ph hf T5
     simp only [h3]
     refine ⟨_,rfl,?_⟩
     cases f with
     |none=>
      cases f' with
      |none=>
       cases ok
       ·exact R.gb _
       ·exact .dQ _ _ _ (.cons _ _ _ _ _ (R.gb _) (.cons _ _ _ _ _ (.bool _ _) (.nil _)))
      |some _=>exact h4.elim
     |some u=>
      cases f' with
      |none=>exact h4.elim
      |some u'=>
       cases ok
       ·exact h4
       ·exact .dQ _ _ _ (.cons _ _ _ _ _ h4 (.cons _ _ _ _ _ (.bool _ _) (.nil _)))
    ·cases hr
   ·cases hr
  ·cases hr
 ·cases hr
theorem xk {q:IntKind} {a:Int} {v:V} {w:Value} (hv:R Z h κ v w): ∀ {es:List (V×V)} {es':List (Value×Value)} {f:Option V},eQ (.int q a) es=some f→Ps Z h κ es es'→
  Ps Z h κ (jv (.int q a) v es) (Vm.jv (.int q a) w es')
 | [], [],_,_,_=>⟨.int _ _ _,hv,trivial⟩
 |(k,u)::es,(k',u')::es',f,hr,⟨h1,h2,h3⟩=>by
  unfold eQ at hr
  cases h1<;>simp only [] at hr<;>try (cases hr;done)
  rename_i q' b
  unfold jv Vm.jv
  simp only []
  by_cases ha:a=b
  ·rw [if_pos ha,if_pos ha]
   exact ⟨.int _ _ _,hv,h3⟩
  ·rw [if_neg ha,if_neg ha]
   split at hr
   ·exact ⟨.int _ _ _,h2,xk hv (by first|exact hr|(rw [if_neg ha] at hr;exact hr)) h3⟩
   ·cases hr
 | [],_::_,_,_,h=>h.elim
 |(_,_)::_, [],_,_,h=>h.elim
theorem xJ (m:Sm ng κ Z s s') {t:Nat} {x k v:V} {x' k' w:Value} (hr:fj T t s x k v=some s₂) (hx:R Z s'.h κ x x') (hk:R Z s'.h κ k k') (hv:R Z s'.h κ v w):
  ∃bF,Vm.fj T t s' x' k' w=some bF∧fP κ Z s s' κ Z s₂ bF∧Sm ng κ Z s₂ bF:=by
 unfold fj at hr
 unfold Vm.fj
 split at hr
 ·cases hr
 ·split at hr
  ·rename_i ht
   simp only [ht]
   split at hr
   ·rename_i h1
    cases hk
    cases hx with
    |map _ r c hkr=>
     simp only [h1]
     split at hr
     ·rename_i es uD
      obtain ⟨o',h3,es',fJ,rfl,h4,h5⟩:=m.obj _ _ c uD hkr
      have h6:=h5 rfl
      subst h6
      simp only [h3]
      split at hr
      ·rename_i f hf
       cases hr
       obtain ⟨f',h7,_⟩:=ph hf h4
       simp only [h7]
       obtain ⟨k1,k2⟩:=oH m uD rfl hkr (o:= .map (jv (.int _ _) v es) true) (o':= .map (Vm.jv (.int _ _) w es') true) ⟨_,true,rfl,xk hv hf h4,fun _=>rfl⟩
       exact ⟨_,rfl,k1,k2⟩
      ·cases hr
     ·cases hr
   ·cases hr
  ·cases hr
theorem xY {t:Nat} {ps:List (Nat×V)} {ps':List (Nat×Value)} {v:V} (hr:iI T t ps=some v) (hp:Ns Z h κ ps ps'): ∃w,Vm.iI T t ps'=some w∧R Z h κ v w:=by
 unfold iI at hr
 unfold Vm.iI
 split at hr
 ·rename_i ti ht
  rw [ht]
  obtain ⟨kd,sz,AX,z⟩:=ti
  cases kd<;>simp only [] at hr<;>try (cases hr;done)
  ·rename_i n e
   split at hr
   ·rename_i te ej
    simp only [ej]
    split at hr
    ·rename_i l hl
     cases hr
     obtain ⟨l',h1,h2⟩:=pg hp hl (Rs.zero _)
     simp only [h1]
     exact ⟨_,rfl,.agg _ _ _ h2⟩
    ·cases hr
   ·cases hr
  ·split at hr
   ·rename_i l hl
    cases hr
    obtain ⟨l',h1,h2⟩:=pg hp hl (Rs.zero _)
    dsimp only
    split
    ·rename_i l₂ h₂
     have e:some l₂=some l':=h₂.symm.trans h1
     cases e
     exact ⟨_,rfl,.agg _ _ _ h2⟩
    ·rename_i h₂
     have e:none=some l':=h₂.symm.trans h1
     cases e
   ·cases hr
 ·cases hr
theorem qf (m:Sm ng κ Z s s') {t len:Nat} {ps:List (Nat×V)} {ps':List (Nat×Value)} {v:V} (hr:cI T t len ps s=some (v,s₂)) (hp:Ns Z s'.h κ ps ps'):
  ∃κ₂ w bF,Vm.cI T t len ps' s'=some (w,bF)∧fP κ Z s s' κ₂ Z s₂ bF∧Sm ng κ₂ Z s₂ bF∧R Z bF.h κ₂ v w:=by
 unfold cI at hr
 unfold Vm.cI
 split at hr
 ·rename_i ht
  simp only [ht]
  split at hr
  ·rename_i te ej
   simp only [ej]
   split at hr
   ·rename_i hle
    simp only [hle]
    split at hr
    ·rename_i l hl
     simp only [Option.some.injEq,Prod.mk.injEq] at hr;obtain ⟨rfl,rfl⟩:=hr
     obtain ⟨l',h1,h2⟩:=pg hp hl (Rs.bz (Rs.zero te) len)
     simp only [h1]
     rename_i e _ _ _ _ _ _
     obtain ⟨k1,k2⟩:=ir m (o:= .cells l e false true) (o':= .cells l' e false true) ⟨_,true,rfl,h2.mono (fun _ h=>h) (fun _ _=>rfl) (oS m),fun _=>rfl⟩
     exact ⟨_,_,_,rfl,k1,k2,.sl _ _ _ _ _ _ _ (cd.add_same _ _ _)⟩
    ·cases hr
   ·cases hr
  ·cases hr
 ·cases hr
theorem rH (m:Sm ng κ Z s s') {t:Nat} {l c v:V} {l' c':Value} (hr:bQ T t l c s=some (v,s₂)) (hl:R Z s'.h κ l l') (hc:R Z s'.h κ c c'):
  ∃κ₂ w bF,Vm.bQ T t l' c' s'=some (w,bF)∧fP κ Z s s' κ₂ Z s₂ bF∧Sm ng κ₂ Z s₂ bF∧R Z bF.h κ₂ v w:=by
 unfold bQ at hr
 unfold Vm.bQ
 split at hr
 ·rename_i ht
  cases hl;cases hc
  simp only [ht]
  split at hr
  ·rename_i te ej
   simp only [ej]
   split at hr
   ·rename_i jh
    simp only [Option.some.injEq,Prod.mk.injEq] at hr;obtain ⟨rfl,rfl⟩:=hr
    simp only [if_pos jh]
    obtain ⟨k1,k2⟩:=ir m (o:= .cells (bz _ (zero te)) _ false true) (o':= .cells (Vm.bz _ (Vm.bc te.zero)) _ false true) ⟨_,true,rfl,Rs.bz (Rs.zero te) _,fun _=>rfl⟩
    exact ⟨_,_,_,rfl,k1,k2,.sl _ _ _ _ _ _ _ (cd.add_same _ _ _)⟩
   ·cases hr
  ·cases hr
 ·cases hr
theorem zl (m:Sm ng κ Z s s') {te:TI} {e:Nat} {x y v:V} {x' y':Value} (hr:fO te e s x y=some (v,s₂)) (hx:R Z s'.h κ x x') (hy:R Z s'.h κ y y'):
  ∃κ₂ w bF,Vm.fO te e s' x' y'=some (w,bF)∧fP κ Z s s' κ₂ Z s₂ bF∧Sm ng κ₂ Z s₂ bF∧R Z bF.h κ₂ v w:=by
 unfold fO at hr
 unfold Vm.fO
 split at hr
 ·cases hx;cases hy
  split at hr
  ·rename_i jh
   simp only [Option.some.injEq,Prod.mk.injEq] at hr;obtain ⟨rfl,rfl⟩:=hr
   simp only [if_pos jh]
   obtain ⟨k1,k2⟩:=ir m (o:= .cells (bz _ (zero te)) _ true true) (o':= .cells (Vm.bz _ (Vm.bc te.zero)) _ true true) ⟨_,true,rfl,Rs.bz (Rs.zero te) _,fun _=>rfl⟩
   exact ⟨_,_,_,rfl,k1,k2,.sl _ _ _ _ _ _ _ (cd.add_same _ _ _)⟩
  ·cases hr
 ·cases hr
theorem uk (m:Sm ng κ Z s s') {a b:Nat} {x v:V} {x':Value} (hr:df T a b x s=some (v,s₂)) (hx:R Z s'.h κ x x'):
  ∃κ₂ w bF,Vm.df T a b x' s'=some (w,bF)∧fP κ Z s s' κ₂ Z s₂ bF∧Sm ng κ₂ Z s₂ bF∧R Z bF.h κ₂ v w:=by
 unfold df at hr
 unfold Vm.df
 split at hr
 ·rename_i h1 h2
  cases hx
  simp only [h1,h2]
  simp only [Option.some.injEq,Prod.mk.injEq] at hr;obtain ⟨rfl,rfl⟩:=hr
  exact ⟨κ,_,s',rfl,fP.refl m,m,.int _ _ _⟩
 ·rename_i h1 h2
  cases hx
  simp only [h1,h2]
  simp only [Option.some.injEq,Prod.mk.injEq] at hr;obtain ⟨rfl,rfl⟩:=hr
  exact ⟨κ,_,s',rfl,fP.refl m,m,.str _ _⟩
 ·rename_i h1 h2
  simp only [h1,h2]
  split at hr
  ·rename_i h3
   cases hx<;>simp only [] at hr<;>try (cases hr;done)
   ·simp only [Option.some.injEq,Prod.mk.injEq] at hr;obtain ⟨rfl,rfl⟩:=hr
    simp only [h3]
    exact ⟨κ,_,s',rfl,fP.refl m,m,.str _ _⟩
   ·rename_i hk
    simp only [h3]
    split at hr
    ·rename_i l hl
     obtain ⟨l',h4,h5⟩:=pK m hl hk
     simp only [h4]
     split at hr
     ·rename_i bs Hp
      simp only [Option.some.injEq,Prod.mk.injEq] at hr;obtain ⟨rfl,rfl⟩:=hr
      simp only [mi Hp h5]
      exact ⟨κ,_,s',rfl,fP.refl m,m,.str _ _⟩
     ·cases hr
    ·cases hr
   ·rename_i hz hc hl hcap nU
    simp only [h3]
    split at hr
    ·rename_i l ht
     obtain ⟨h4,rfl⟩:=nM ht
     obtain ⟨h5,h6⟩:=lS (κ:=κ) hc hl nU h4
     simp only [h5]
     split at hr
     ·rename_i bs Hp
      simp only [Option.some.injEq,Prod.mk.injEq] at hr;obtain ⟨rfl,rfl⟩:=hr
      simp only [mi Hp h6]
      exact ⟨κ,_,s',rfl,fP.refl m,m,.str _ _⟩
     ·cases hr
    ·cases hr
  ·cases hr
 ·rename_i h1 h2
  cases hx
  simp only [h1,h2]
  split at hr
  ·rename_i h3
   simp only [h3]
   split at hr
   ·rename_i hz
    simp only [Option.some.injEq,Prod.mk.injEq] at hr;obtain ⟨rfl,rfl⟩:=hr
    simp only [hz]
    obtain ⟨k1,k2⟩:=ir m (o:= .cells (ofBytes _) _ true true) (o':= .cells (Vm.ofBytes _) _ true true) ⟨_,true,rfl,Rs.ofBytes _,fun _=>rfl⟩
    exact ⟨_,_,_,rfl,k1,k2,.sl _ _ _ _ _ _ _ (cd.add_same _ _ _)⟩
   ·cases hr
  ·cases hr
 ·cases hr
theorem rh {t f:Nat} {x v:V} {x':Value} (hr:eh T t x f=some v) (hx:R Z h κ x x'): ∃w,Vm.eh T t x' f=some w∧R Z h κ v w:=by
 unfold eh at hr
 unfold Vm.eh
 split at hr
 ·rename_i ht
  split at hr
  ·rename_i ft off r hf
   split at hr
   ·rename_i ti BB
    split at hr
    ·rename_i hsz
     split at hr
     ·cases hx with
      |ptr _ _ _ c hk=>
       cases hr
       simp only [ht,hf,BB,hsz]
       exact ⟨_,rfl,.ptr _ _ _ _ hk⟩
     ·cases hx with
      |dS _ _ c o vs e bL own hz hc hl nU=>
       simp only [ht,hf,BB,hsz]
       exact ⟨_,rfl,oY hr hz hc hl nU⟩
     ·cases hr
    ·cases hr
   ·cases hr
  ·cases hr
 ·cases hr
theorem yo {t f:Nat} {x v:V} {x':Value} (hr:iK T t x f=some v) (hx:R Z h κ x x'): ∃w,Vm.iK T t x' f=some w∧R Z h κ v w:=by
 unfold iK at hr
 unfold Vm.iK
 split at hr
 ·rename_i ht
  cases hx with
  |agg _ _ l' hl=>
   split at hr
   ·rename_i ft off r hf
    split at hr
    ·rename_i ti BB
     simp only [ht,hf,BB]
     exact xe hr hl
    ·cases hr
   ·cases hr
 ·cases hr
inductive XR (Z:Nat→Prop) (h:Tr eI) (κ:cd):gf→jL→Prop
 |val (v:V) (w:Value) (hv:R Z h κ v w):XR Z h κ (.val v) (.val w)
 |call (f:Nat) (a:List V) (a':List Value) (ha:Rs Z h κ a a'):XR Z h κ (.call f a) (.call f a')
 |round (l c:Nat) (a:List V) (a':List Value) (hl:κ l=some c) (ha:Rs Z h κ a a'):XR Z h κ (.round l a) (.round c a')
def Ig (ng:Nat) (κ:cd) (Z:Nat→Prop) (s:S) (s':St) (r:gf) (s₂:S) (o:Option (jL×St)):Prop:=
 ∃κ₂ r' bF,o=some (r',bF)∧fP κ Z s s' κ₂ Z s₂ bF∧Sm ng κ₂ Z s₂ bF∧XR Z bF.h κ₂ r r'
theorem gV (m:Sm ng κ Z s s') {o:Option V} {o':Option Value} {r:gf} (hr:one o s=some (r,s₂)) (ho: ∀v,o=some v→ ∃w,o'=some w∧R Z s'.h κ v w):Ig ng κ Z s s' r s₂ (Vm.one o' s'):=by
 unfold one at hr
 split at hr
 ·rename_i v
  simp only [Option.some.injEq,Prod.mk.injEq] at hr;obtain ⟨rfl,rfl⟩:=hr
  obtain ⟨w,rfl,hw⟩:=ho v rfl
  exact ⟨κ,_,s',rfl,fP.refl m,m,.val _ _ hw⟩
 ·cases hr
theorem kP {o:Option (V×S)} {o':Option (Value×St)} {r:gf} (hr:two o=some (r,s₂))
  (ho: ∀v,o=some (v,s₂)→ ∃κ₂ w bF,o'=some (w,bF)∧fP κ Z s s' κ₂ Z s₂ bF∧Sm ng κ₂ Z s₂ bF∧R Z bF.h κ₂ v w):Ig ng κ Z s s' r s₂ (Vm.two o'):=by
 unfold two at hr
 split at hr
 ·rename_i v s₁
  simp only [Option.some.injEq,Prod.mk.injEq] at hr;obtain ⟨rfl,rfl⟩:=hr
  obtain ⟨κ₂,w,bF,rfl,h1,h2,h3⟩:=ho v rfl
  exact ⟨κ₂,_,bF,rfl,h1,h2,.val _ _ h3⟩
 ·cases hr
theorem eb (m:Sm ng κ Z s s') {v:V} {w:Value} {r:gf} (hr:some (gf.val v,s)=some (r,s₂)) (hw:R Z s'.h κ v w):Ig ng κ Z s s' r s₂ (some (.val w,s')):=by
 simp only [Option.some.injEq,Prod.mk.injEq] at hr;obtain ⟨rfl,rfl⟩:=hr
 exact ⟨κ,_,s',rfl,fP.refl m,m,.val _ _ hw⟩
theorem ui (m:Sm ng κ Z s s') {b:Builtin} {ts:List Nat} {args:List V} {args':List Value} {r:gf} (hr:bI T b ts args s=some (r,s₂)) (ha:Rs Z s'.h κ args args'):
  Ig ng κ Z s s' r s₂ (Vm.bI T b ts args' s'):=by
 unfold bI at hr
 split at hr
 ·
  cases ha with
  |cons _ _ x' _ l' hx hl=>
   cases hl
   unfold Vm.bI
   simp only []
   split at hr
   ·rename_i ht;cases hx;simp only [ht];exact eb m hr (.int _ _ _)
   ·rename_i ht;simp only [ht];exact eb m hr (.int _ _ _)
   ·rename_i ht;cases hx;simp only [ht];exact eb m hr (.int _ _ _)
   ·rename_i ht;cases hx;simp only [ht];exact eb m hr (.int _ _ _)
   ·rename_i ht;cases hx;simp only [ht];exact eb m hr (.int _ _ _)
   ·rename_i ht;cases hx;simp only [ht];exact eb m hr (.int _ _ _)
   ·rename_i ht
    cases hx with
    |map _ b c hb=>
     simp only [ht]
     split at hr
     ·rename_i es own hm
      obtain ⟨o',h3,es',fJ,rfl,h4,_⟩:=m.obj _ _ c hm hb
      simp only [h3]
      have: ∀ {es:List (V×V)} {es':List (Value×Value)},Ps Z s'.h κ es es'→es.length=es'.length:=by
       intro es
       induction es with
       |nil=>intro es' hp;cases es' with
        |nil=>rfl
        |cons _ _=>exact hp.elim
       |cons e es ih=>intro es' hp;cases es' with
        |nil=>exact hp.elim
        |cons _ _=>simp [ih hp.2.2]
      rw [←this h4]
      exact eb m hr (.int _ _ _)
     ·cases hr
   ·cases hr
 ·
  cases ha with
  |cons _ _ x' _ l' hx hl=>
   cases hl
   unfold Vm.bI
   simp only []
   split at hr
   ·rename_i ht;cases hx;simp only [ht];exact eb m hr (.int _ _ _)
   ·rename_i ht
    cases hx with
    |sl _ b _ _ _ _ c hb=>
     simp only [ht]
     split at hr
     ·rename_i cs e own hm
      obtain ⟨o',h3,vs,fJ,rfl,h4,_⟩:=m.obj _ _ c hm hb
      simp only [h3]
      exact eb m hr (.int _ _ _)
     ·cases hr
   ·cases hr
 ·
  cases ha with
  |cons _ _ x' _ l' hx hl=>
   cases hl with
   |cons _ _ y' _ l'' hy hl=>
    cases hl
    unfold Vm.bI
    simp only []
    split at hr
    ·rename_i h1 h2
     simp only [h1,h2]
     split at hr
     ·cases hr
     ·rename_i te y ej IN
      simp only [ej]
      have hne: ∃a n c,y'= .slice a n c:=by
       unfold two at hr
       split at hr
       ·rename_i v₀ s₀ Ks
        unfold cy at Ks
        split at Ks
        ·cases Ks
        ·rename_i n l hit
         unfold items at hit
         cases hy<;>simp only [] at hit<;>first|(cases hit;done)|exact ⟨_,_,_,rfl⟩|exact absurd rfl (IN _)
       ·cases hr
      obtain ⟨a,n,c,rfl⟩:=hne
      exact kP hr fun v ho=>pS m ho hx hy
     ·cases hr
    ·rename_i h1 h2
     simp only [h1,h2]
     split at hr
     ·rename_i te st ej
      simp only [ej]
      cases hy
      exact kP hr fun v ho=>pS m ho hx (.str _ _)
     ·cases hr
    ·rename_i h1 h2
     simp only [h1,h2]
     split at hr
     ·rename_i te ej
      simp only [ej]
      exact kP hr fun v ho=>zl m ho hx hy
     ·cases hr
    ·cases hr
 ·
  cases ha with
  |cons _ _ x' _ l' hx hl=>
   cases hl with
   |cons _ _ y' _ l'' hy hl=>
    cases hl
    unfold Vm.bI
    simp only []
    split at hr
    ·rename_i h1
     simp only [h1]
     split at hr
     ·rename_i te ej
      simp only [ej]
      exact kP hr fun v ho=>Ba m ho hx hy
     ·cases hr
    ·cases hr
 ·cases ha with
  |cons _ _ x' _ l' hx hl=>
   unfold Vm.bI
   simp only []
   exact gV m hr fun v ho=>rL ho hx hl
 ·cases ha with
  |cons _ _ x' _ l' hx hl=>
   unfold Vm.bI
   simp only []
   exact gV m hr fun v ho=>rL ho hx hl
 ·cases hr
theorem Rs.map {ρ:Operand→V} {ρ':Operand→Value} : ∀ {l:List Operand},(∀x∈l,R Z h κ (ρ x) (ρ' x))→Rs Z h κ (l.map ρ) (l.map ρ')
 | [],_=> .nil _
 |x::l,hh=> .cons _ _ _ _ _ (hh x (by simp)) (Rs.map fun y hy=>hh y (by simp [hy]))
theorem Ns.pairs {ρ:Operand→V} {ρ':Operand→Value} : ∀ {l:List (Nat×Operand)},(∀p∈l,R Z h κ (ρ p.2) (ρ' p.2))→Ns Z h κ (l.map fun p=>(p.1,ρ p.2)) (l.map fun p=>(p.1,ρ' p.2))
 | [],_=> .nil
 |x::l,hh=> .cons _ _ _ _ _ (hh x (by simp)) (Ns.pairs fun y hy=>hh y (by simp [hy]))
end Go.Vm.X
end
noncomputable section
namespace Go.Vm.X
open Go
variable {Z Z':Nat→Prop} {h h':Tr eI} {κ κ':cd} {ng:Nat} {s s₂ s₃:S} {s' bF vH:St} {κ₂ κ₃:cd} {Z₂ Z₃:Nat→Prop} {T:Types}
theorem AZ (m:Sm ng κ Z s s') {c:Call} {ρ:Operand→V} {ρ':Operand→Value} {r:gf} (hr:dG T c ρ s=some (r,s₂)) (hρ: ∀x∈c.operands,R Z s'.h κ (ρ x) (ρ' x)):
  Ig ng κ Z s s' r s₂ (Vm.dG T c ρ' s'):=by
 have hargs:Rs Z s'.h κ (c.args.toList.map ρ) (c.args.toList.map ρ'):=Rs.map fun x hx=>hρ x (by
  unfold Call.operands
  split<;>simp_all)
 unfold dG at hr
 unfold Vm.dG
 split at hr
 ·rename_i b hb
  split at hr
  ·cases hr
  ·simp only [hb]
   exact ui m hr hargs
 ·cases hr
 ·rename_i f hf
  simp only [hf]
  have bX:=hρ f (by unfold Call.operands;simp [hf])
  split at hr
  ·rename_i g first captured hg
   rw [hg] at bX
   generalize yz:ρ' f=f' at bX
   cases bX with
   |fn _ _ _ _ a' b' ha hb=>
    simp only [Option.some.injEq,Prod.mk.injEq] at hr;obtain ⟨rfl,rfl⟩:=hr
    exact ⟨κ,_,s',rfl,fP.refl m,m,.call _ _ _ (ha.append (hargs.append hb))⟩
  ·rename_i l hg
   rw [hg] at bX
   generalize yz:ρ' f=f' at bX
   cases bX with
   |yield _ _ c hb=>
    simp only [Option.some.injEq,Prod.mk.injEq] at hr;obtain ⟨rfl,rfl⟩:=hr
    exact ⟨κ,_,s',rfl,fP.refl m,m,.round _ _ _ _ hb hargs⟩
  ·cases hr
theorem LK {ρ:Operand→V} {ρ':Operand→Value} {o:Option Operand} (hh: ∀x,o=some x→R Z h κ (ρ x) (ρ' x)):qe Z h κ (o.map ρ) (o.map ρ'):=by
 cases o with
 |none=>trivial
 |some x=>exact hh x rfl
theorem ym (m:Sm ng κ Z s s') {o:Op} {ρ:Operand→V} {ρ':Operand→Value} {r:gf} (hr:evalOp T ρ s o=some (r,s₂)) (hρ: ∀x∈o.operands,R Z s'.h κ (ρ x) (ρ' x)):
  Ig ng κ Z s s' r s₂ (Vm.evalOp T ρ' s' o):=by
 cases o<;>simp only [evalOp] at hr<;>try (cases hr;done)
 case move x=>exact eb m hr (hρ x (by simp [Op.operands]))
 case assign x=>exact eb m hr (hρ x (by simp [Op.operands]))
 case pick c a b=>
  have hc:=hρ c (by simp [Op.operands])
  have ha:=hρ a (by simp [Op.operands])
  have hb:=hρ b (by simp [Op.operands])
  split at hr
  ·rename_i e
   rw [e] at hc
   generalize lu:ρ' c=c' at hc
   cases hc
   simp only [Vm.evalOp,lu]
   exact eb m hr ha
  ·rename_i e
   rw [e] at hc
   generalize lu:ρ' c=c' at hc
   cases hc
   simp only [Vm.evalOp,lu]
   exact eb m hr hb
  ·cases hr
 case alloc t=>
  split at hr
  ·rename_i ti ht
   simp only [Option.some.injEq,Prod.mk.injEq] at hr;obtain ⟨rfl,rfl⟩:=hr
   simp only [Vm.evalOp,ht,Vm.two,eS]
   obtain ⟨k1,k2⟩:=ir m (o:= .cells (zero ti) t false true) (o':= .cells (Vm.bc ti.zero) t false true) ⟨_,true,rfl,Rs.zero ti,fun _=>rfl⟩
   exact ⟨_,_,_,rfl,k1,k2,.val _ _ (.ptr _ _ _ _ (cd.add_same _ _ _))⟩
  ·cases hr
 case box t x=>
  have hx:=hρ x (by simp [Op.operands])
  split at hr
  ·cases hr
  ·rename_i hb
   simp only [Option.some.injEq,Prod.mk.injEq] at hr;obtain ⟨rfl,rfl⟩:=hr
   simp only [Vm.evalOp,Vm.two,eS]
   obtain ⟨k1,k2⟩:=ir m (o:= .cells (bc (ρ x)) t false true) (o':= .cells (Vm.bc (ρ' x)) t false true) ⟨_,true,rfl,(hx.bc hb).mono (fun _ h=>h) (fun _ _=>rfl) (oS m),fun _=>rfl⟩
   exact ⟨_,_,_,rfl,k1,k2,.val _ _ (.ptr _ _ _ _ (cd.add_same _ _ _))⟩
 case build t ps=>
  have hp:Ns Z s'.h κ (pairs ρ ps) (Vm.pairs ρ' ps):=Ns.pairs fun p hp=>hρ p.2 (by simp [Op.operands];exact ⟨p.1,by simpa using hp⟩)
  simp only [Vm.evalOp]
  exact gV m hr fun v hv=>xY hv hp
 case buildSlice t len ps=>
  have hp:Ns Z s'.h κ (pairs ρ ps) (Vm.pairs ρ' ps):=Ns.pairs fun p hp=>hρ p.2 (by simp [Op.operands];exact ⟨p.1,by simpa using hp⟩)
  simp only [Vm.evalOp]
  exact kP hr fun v hv=>qf m hv hp
 case load t a=>
  have ha:=hρ a (by simp [Op.operands])
  split at hr
  ·rename_i ti ht
   have: ∃a',ρ' a= .pointer (some a')∧Ig ng κ Z s s' r s₂ (Vm.one (Vm.loadT ti s' a') s'):=by
    unfold one at hr
    split at hr
    ·rename_i v hv
     obtain ⟨a',w,h1,h2,h3⟩:=tC m hv ha
     refine ⟨a',h1,?_⟩
     rw [h2]
     exact eb m hr h3
    ·cases hr
   obtain ⟨a',h1,h2⟩:=this
   simp only [Vm.evalOp,ht,h1]
   exact h2
  ·cases hr
 case store t a x=>
  have ha:=hρ a (by simp [Op.operands])
  have hx:=hρ x (by simp [Op.operands])
  split at hr
  ·rename_i ti ht
   unfold three at hr
   split at hr
   ·rename_i s₁ hs
    simp only [Option.some.injEq,Prod.mk.injEq] at hr;obtain ⟨rfl,rfl⟩:=hr
    obtain ⟨a',bF,h1,h2,h3,h4⟩:=ze m hs ha hx
    simp only [Vm.evalOp,ht,h1,h2,Vm.three]
    exact ⟨κ,_,bF,rfl,h3,h4,.val _ _ (.bad _ _)⟩
   ·cases hr
  ·cases hr
 case nilCheck x=>
  have hx:=hρ x (by simp [Op.operands])
  split at hr
  ·rename_i e
   rw [e] at hx
   generalize lu:ρ' x=c' at hx
   cases hx with
   |ptr _ _ _ c hb=>simp only [Vm.evalOp,lu];exact eb m hr (.ptr _ _ _ _ hb)
  ·rename_i e
   rw [e] at hx
   generalize lu:ρ' x=c' at hx
   cases hx with
   |dS _ _ c o vs e bL own hz hc hl nU=>simp only [Vm.evalOp,lu];exact eb m hr (.dS _ _ _ _ _ _ _ _ hz hc hl nU)
  ·rename_i e
   rw [e] at hx
   generalize lu:ρ' x=c' at hx
   cases hx with
   |fn _ _ _ _ a' b' ha hb=>simp only [Vm.evalOp,lu];exact eb m hr (.fn _ _ _ _ _ _ ha hb)
  ·rename_i e
   rw [e] at hx
   generalize lu:ρ' x=c' at hx
   cases hx with
   |yield _ _ c hb=>simp only [Vm.evalOp,lu];exact eb m hr (.yield _ _ _ hb)
  ·cases hr
 case binOp op t x y sh=>
  have hx:=hρ x (by simp [Op.operands])
  have hy:=hρ y (by simp [Op.operands])
  simp only [Vm.evalOp]
  exact gV m hr fun v hv=>G0 hv hx hy
 case unOp op t x=>
  have hx:=hρ x (by simp [Op.operands])
  simp only [Vm.evalOp]
  exact gV m hr fun v hv=>Mu hv hx
 case convert a b x=>
  have hx:=hρ x (by simp [Op.operands])
  simp only [Vm.evalOp]
  exact kP hr fun v hv=>uk m hv hx
 case makeFunc fn first captured=>
  have h1:Rs Z s'.h κ (first.toList.map ρ) (first.toList.map ρ'):=Rs.map fun x hx=>hρ x (by simp [Op.operands];exact .inl (by simpa using hx))
  have h2:Rs Z s'.h κ (captured.toList.map ρ) (captured.toList.map ρ'):=Rs.map fun x hx=>hρ x (by simp [Op.operands];exact .inr (by simpa using hx))
  split at hr
  ·simp only [Vm.evalOp]
   exact eb m hr (.fn _ _ _ _ _ _ h1 h2)
  ·cases hr
 case makeMap t r'=>
  split at hr
  ·rename_i ht
   simp only [Option.some.injEq,Prod.mk.injEq] at hr;obtain ⟨rfl,rfl⟩:=hr
   simp only [Vm.evalOp,ht,Vm.two]
   obtain ⟨k1,k2⟩:=ir m (o:= .map [] true) (o':= .map [] true) ⟨[],true,rfl,trivial,fun _=>rfl⟩
   exact ⟨_,_,_,rfl,k1,k2,.val _ _ (.map _ _ _ (cd.add_same _ _ _))⟩
  ·cases hr
 case mapUpdate t mm k v=>
  have h1:=hρ mm (by simp [Op.operands])
  have h2:=hρ k (by simp [Op.operands])
  have h3:=hρ v (by simp [Op.operands])
  unfold three at hr
  split at hr
  ·rename_i s₁ hs
   simp only [Option.some.injEq,Prod.mk.injEq] at hr;obtain ⟨rfl,rfl⟩:=hr
   obtain ⟨bF,k1,k2,k3⟩:=xJ m hs h1 h2 h3
   simp only [Vm.evalOp,k1,Vm.three]
   exact ⟨κ,_,bF,rfl,k2,k3,.val _ _ (.bad _ _)⟩
  ·cases hr
 case makeSlice t l c=>
  have hx:=hρ l (by simp [Op.operands])
  have hy:=hρ c (by simp [Op.operands])
  simp only [Vm.evalOp]
  exact kP hr fun v hv=>rH m hv hx hy
 case slice t x lo hi mx=>
  have hx:=hρ x (by simp [Op.operands])
  have h1:qe Z s'.h κ (lo.map ρ) (lo.map ρ'):=LK fun y hy=>hρ y (by subst hy;simp [Op.operands])
  have h2:qe Z s'.h κ (hi.map ρ) (hi.map ρ'):=LK fun y hy=>hρ y (by subst hy;simp [Op.operands])
  have h3:qe Z s'.h κ (mx.map ρ) (mx.map ρ'):=LK fun y hy=>hρ y (by subst hy;simp [Op.operands])
  have key:one (fh T t (ρ x) (lo.map ρ) (hi.map ρ) (mx.map ρ)) s=some (r,s₂)→Ig ng κ Z s s' r s₂ (Vm.one (Vm.fh T t (ρ' x) (lo.map ρ') (hi.map ρ') (mx.map ρ')) s'):=
   fun hr=>gV m hr fun v hv=>yZ hv hx h1 h2 h3
  simp only [Vm.evalOp]
  cases hi with
  |none=>cases mx with
   |none=>exact key hr
   |some _=>cases hr
  |some _=>exact key hr
 case fieldAddr t x f=>
  have hx:=hρ x (by simp [Op.operands])
  simp only [Vm.evalOp]
  exact gV m hr fun v hv=>rh hv hx
 case field t x f=>
  have hx:=hρ x (by simp [Op.operands])
  simp only [Vm.evalOp]
  exact gV m hr fun v hv=>yo hv hx
 case indexAddr t x i=>
  have hx:=hρ x (by simp [Op.operands])
  have hy:=hρ i (by simp [Op.operands])
  simp only [Vm.evalOp]
  exact gV m hr fun v hv=>rE hv hx hy
 case index t x i=>
  have hx:=hρ x (by simp [Op.operands])
  have hy:=hρ i (by simp [Op.operands])
  simp only [Vm.evalOp]
  exact gV m hr fun v hv=>yF hv hx hy
 case lookup t x i ok=>
  have hx:=hρ x (by simp [Op.operands])
  have hy:=hρ i (by simp [Op.operands])
  simp only [Vm.evalOp]
  exact gV m hr fun v hv=>wW m hv hx hy
 case extract t i=>
  have hx:=hρ t (by simp [Op.operands])
  split at hr
  ·rename_i vs e
   rw [e] at hx
   generalize lu:ρ' t=c' at hx
   cases hx with
   |dQ _ _ l' hl=>
    simp only [Vm.evalOp,lu]
    split at hr
    ·rename_i v r₀ hd
     have:=hl.drop i
     rw [hd] at this
     generalize l'.drop i=ws at this ⊢
     cases this with
     |cons _ _ w _ l'' h3 _=>exact eb m hr h3
    ·cases hr
  ·cases hr
 case call c=>
  simp only [Vm.evalOp]
  exact AZ m hr hρ
end Go.Vm.X
end
