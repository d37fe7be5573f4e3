/-
  A part of the proof of PromiseBytes: lemmas, in short letters, printed by a program out of the longer texts; conditions: those that each lemma names.
-/
import Derived.Test.YtalmddmghdinkaaGreatDoorJ
set_option linter.all false
set_option linter.deprecated false
noncomputable section
namespace Go.Vm.X
open Go
variable {T:Types} {s s₂:S} {ρ ρ':Operand→V}
theorem fU {f:IntKind→Int→Int→Option V} {x y v:V} (h:jV f x y=some v): ∃k a b,x= .int k a∧y= .int k b∧f k a b=some v:=by
 unfold jV at h
 cases x with
 |int k a=>
  cases y with
  |int k' b=>
   simp only [] at h
   split at h
   ·rename_i hk
    have:k=k':=by simpa using hk
    subst this
    exact ⟨k,a,b,rfl,rfl,h⟩
   ·cases h
  |_=>cases h
 |_=>cases h
theorem Dm {t:Option TI} {x y v:V} (h:FK t true x y=some v):bin .eql t x y=some v:=by
 unfold FK at h
 split at h
 ·rename_i k a
  cases y with
  |int k' b=>
   simp only [] at h
   split at h
   ·rename_i hk
    have:k=k':=by simpa using hk
    subst this
    rw [←h,GQ,jA]
    cases a == b<;>rfl
   ·cases h
  |_=>cases h
 ·exact h
theorem Bg {t:Option TI} {x y v:V} (h:FK t false x y=some v):bin .neq t x y=some v:=by
 unfold FK at h
 split at h
 ·rename_i k a
  cases y with
  |int k' b=>
   simp only [] at h
   split at h
   ·rename_i hk
    have:k=k':=by simpa using hk
    subst this
    rw [←h,GX,jA,bne]
    cases a == b<;>rfl
   ·cases h
  |_=>cases h
 ·exact h
theorem GO {op:BinOp} {t:Option TI} {x y v:V} (h:an op t x y=some v):bin op t x y=some v:=by
 unfold an at h
 split at h
 ·obtain ⟨k,a,b,rfl,rfl,h2⟩:=fU h;rw [GP,←h2,gq]
 ·obtain ⟨k,a,b,rfl,rfl,h2⟩:=fU h;rw [G1,←h2,gq]
 ·obtain ⟨k,a,b,rfl,rfl,h2⟩:=fU h;rw [GW,←h2,gq]
 ·obtain ⟨k,a,b,rfl,rfl,h2⟩:=fU h
  rw [GY,←h2,jA,gq]
  have e:(b == Int.ofNat 0)=decide (b=0):=rfl
  rw [e]
  by_cases hb:b=0<;>simp [hb]
 ·obtain ⟨k,a,b,rfl,rfl,h2⟩:=fU h
  rw [GZ,←h2,jA]
  have e:(b == Int.ofNat 0)=decide (b=0):=rfl
  rw [e]
  by_cases hb:b=0<;>simp [hb]
 ·obtain ⟨k,a,b,rfl,rfl,h2⟩:=fU h;rw [GV,←h2,uN]
 ·obtain ⟨k,a,b,rfl,rfl,h2⟩:=fU h;rw [GU,←h2,uK]
 ·obtain ⟨k,a,b,rfl,rfl,h2⟩:=fU h;rw [GS,←h2,uN]
 ·obtain ⟨k,a,b,rfl,rfl,h2⟩:=fU h;rw [GR,←h2,uK]
 ·exact Dm h
 ·exact Bg h
 ·exact h
theorem Ew {ti:TI} {p v:V} (h:(match ti.isAgg with
  |true=>aD ti.size s p
  |false=>aM s p)=some v):loadT ti s p=some v:=by
 unfold loadT
 split at h
 ·rename_i ha;rw [ha];exact h
 ·rename_i ha;rw [ha];exact h
theorem oE {ti:TI} {off:Nat} {cs:List V} {v:V} (h:(match ti.isAgg with
  |true=>EV off ti.size cs
  |false=>EW off cs)=some v):part ti cs off=some v:=by
 unfold part
 split at h
 ·rename_i ha;rw [ha];exact h
 ·rename_i ha;rw [ha];exact h
theorem ou {i:Int} {n:Nat} (h:Em i n=true):0≤i∧i<n:=by
 unfold Em at h
 split at h
 ·rw [Nat.blt_eq] at h
  simp only [Int.ofNat_eq_natCast]
  omega
 ·cases h
theorem nC: ∀ {ps:List (Nat×Nat×V)} {cs:List V} {v:V},aI cs ps=some v→ ∃l,v= .agg l
 | [],cs,v,h=>by simp only [aI,Option.some.injEq] at h;exact ⟨_,h.symm⟩
 |(o,z,x)::ps,cs,v,h=>by
  unfold aI at h
  split at h
  ·cases h
  ·split at h
   ·exact nC h
   ·cases h
theorem wk {fs:List (Nat×Nat)} : ∀ {ps:List (Nat×Operand)} {l:List (Nat×Nat×V)} {cs r:List V},rU T fs ρ ps=some l→aI cs l=some (.agg r)→
  fG (fun i=>match fs.drop i with
   |(ft,off)::_=>match T.get ft with
    |some ti=>some (off,ti.size)
    |none=>none
   | []=>none) cs (ps.map fun p=>(p.1,ρ p.2))=some r
 | [],l,cs,r,h,h'=>by
  simp only [rU,Option.some.injEq] at h
  subst h
  simp only [aI,Option.some.injEq,V.agg.injEq] at h'
  subst h'
  rfl
 |(i,x)::ps,l,cs,r,h,h'=>by
  unfold rU at h
  split at h
  ·rename_i ft off rest hd
   split at h
   ·rename_i ti ht
    split at h
    ·rename_i l' hl
     cases h
     unfold aI at h'
     simp only [List.map_cons]
     unfold fG
     simp only [hd,ht]
     split at h'
     ·cases h'
     ·rename_i hb
      split at h'
      ·rename_i hc
       split
       ·rename_i e;exact absurd e hb
       ·simp only [hc]
        exact wk hl h'
      ·cases h'
    ·cases h
   ·cases h
  ·cases h
theorem rj {z:Nat} : ∀ {ps:List (Nat×Operand)} {cs r:List V},aI cs (pI z ρ ps)=some (.agg r)→
  fG (fun i=>some (i*z,z)) cs (ps.map fun p=>(p.1,ρ p.2))=some r
 | [],cs,r,h'=>by
  simp only [pI,aI,Option.some.injEq,V.agg.injEq] at h'
  subst h'
  rfl
 |(i,x)::ps,cs,r,h'=>by
  unfold pI aI at h'
  simp only [List.map_cons]
  unfold fG
  simp only []
  split at h'
  ·cases h'
  ·rename_i hb
   split at h'
   ·rename_i hc
    split
    ·rename_i e;exact absurd e hb
    ·simp only [hc]
     exact rj h'
   ·cases h'
theorem fw {o:Op} {x:Option V} {v:V} (ha:oT ρ o=false) (he:evalOp T ρ { s with wm:=s.n } o=one x { s with wm:=s.n }) (hx:x=some v):vi T ρ s o=some v:=by
 unfold vi
 rw [ha,he,hx]
 rfl
theorem oM {o:Op} {v:V} (ha:oT ρ o=false) (he:evalOp T ρ { s with wm:=s.n } o=some (.val v, { s with wm:=s.n })):vi T ρ s o=some v:=by
 unfold vi
 rw [ha,he]
theorem qM {o:Op} {v:V} (h:FA T ρ s o=some v):vi T ρ s o=some v:=by
 cases o<;>simp only [FA] at h<;>try (cases h;done)
 case binOp op t x y sh=>exact fw rfl rfl (GO h)
 case unOp op t x=>exact fw rfl rfl h
 case load t a=>
  split at h
  ·rename_i ti ht
   refine fw (x:=loadT ti { s with wm:=s.n } (ρ a)) rfl (by simp only [evalOp,ht]) ?_
   exact Ew (s:= { s with wm:=s.n }) h
  ·cases h
 case fieldAddr t x f=>
  refine fw (x:=eh T t (ρ x) f) rfl rfl ?_
  unfold eh
  split at h
  ·rename_i ti ht
   obtain ⟨kd,sz,AX,z⟩:=ti
   rw [ht]
   cases kd<;>simp only [] at h ⊢ <;>first|(cases h;done)|skip
   split at h
   ·rename_i ft off r hf
    split at h
    ·rename_i ZY Yg
     split at h
     ·rename_i hsz
      simp only [hf,Yg,hsz]
      unfold aJ at h
      split at h
      ·rename_i hx;simp only [hx];exact h
      ·rename_i hx;simp only [hx];exact h
      ·cases h
     ·cases h
    ·cases h
   ·cases h
  ·cases h
 case field t x f=>
  refine fw (x:=iK T t (ρ x) f) rfl rfl ?_
  unfold iK
  split at h
  ·rename_i ti ht
   obtain ⟨kd,sz,AX,z⟩:=ti
   rw [ht]
   cases kd<;>simp only [] at h<;>first|(cases h;done)|skip
   split at h
   ·rename_i ft off r hf
    split at h
    ·rename_i ZY Yg
     have key: ∃cs,ρ x= .agg cs∧part ZY cs off=some v:=by
      cases ha:ZY.isAgg with
      |true=>
       rw [ha] at h
       simp only [fdG] at h
       split at h
       ·rename_i cs hc;exact ⟨cs,hc,oE (by rw [ha];exact h)⟩
       ·cases h
      |false=>
       rw [ha] at h
       simp only [fdS] at h
       split at h
       ·rename_i cs hc;exact ⟨cs,hc,oE (by rw [ha];exact h)⟩
       ·cases h
     obtain ⟨cs,h1,h2⟩:=key
     simp only [h1,hf,Yg]
     exact h2
    ·cases h
   ·cases h
  ·cases h
 case indexAddr t x i=>
  refine fw (x:=ek T t (ρ x) (ρ i)) rfl rfl ?_
  unfold ek
  split at h
  ·rename_i ti ht
   obtain ⟨kd,sz,AX,z⟩:=ti
   rw [ht]
   cases kd<;>simp only [] at h<;>first|(cases h;done)|skip
   ·split at h
    ·rename_i te ej
     unfold ck at h
     split at h
     ·rename_i i' hi
      rw [hi]
      split at h
      ·rename_i hx
       rw [hx]
       split at h
       ·rename_i hr
        simp only [ej,if_pos (ou hr)]
        exact h
       ·cases h
      ·rename_i hx
       rw [hx]
       split at h
       ·rename_i hr
        simp only [ej,if_pos (ou hr)]
        exact h
       ·cases h
      ·cases h
     ·cases h
    ·cases h
   ·split at h
    ·rename_i te ej
     unfold qn at h
     split at h
     ·rename_i i' hi
      rw [hi]
      split at h
      ·rename_i hr
       split at h
       ·rename_i hx
        rw [hx]
        simp only [ej,if_pos (ou hr)]
        exact h
       ·rename_i hx
        rw [hx]
        simp only [ej,if_pos (ou hr)]
        exact h
       ·cases h
      ·cases h
     ·cases h
    ·cases h
  ·cases h
 case index t x i=>
  refine fw (x:=ij T t (ρ x) (ρ i)) rfl rfl ?_
  split at h
  ·rename_i ti ht
   obtain ⟨kd,sz,AX,z⟩:=ti
   cases kd<;>simp only [] at h<;>first|(cases h;done)|exact h|skip
   rename_i n e
   unfold ij
   rw [ht]
   split at h
   ·rename_i te ej
    have key: ∃cs q i',ρ x= .agg cs∧ρ i= .int q i'∧Em i' n=true∧part te cs (i'.toNat*te.size)=some v:=by
     cases ha:te.isAgg with
     |true=>
      rw [ha] at h
      simp only [HN] at h
      split at h
      ·rename_i q i' hi
       split at h
       ·rename_i hr
        split at h
        ·rename_i cs hc;exact ⟨cs,q,i',hc,hi,hr,oE (by rw [ha];exact h)⟩
        ·cases h
       ·cases h
      ·cases h
     |false=>
      rw [ha] at h
      simp only [Q3] at h
      split at h
      ·rename_i q i' hi
       split at h
       ·rename_i hr
        split at h
        ·rename_i cs hc;exact ⟨cs,q,i',hc,hi,hr,oE (by rw [ha];exact h)⟩
        ·cases h
       ·cases h
      ·cases h
    obtain ⟨cs,q,i',h1,h2,h3,h4⟩:=key
    simp only [h1,h2,ej,if_pos (ou h3)]
    exact h4
   ·cases h
  ·cases h
 case slice t x lo hi mx=>
  have key: ∀lo hi mx:Option V,(match T.get t with
   |some ti=>match ti.kind with
    | .slice e=>match T.get e with
     |some te=>gE te.size (ρ x) lo hi mx
     |none=>none
    |_=>fh T t (ρ x) lo hi mx
   |none=>none)=some v→fh T t (ρ x) lo hi mx=some v:=by
   intro lo hi mx h
   split at h
   ·rename_i ti ht
    split at h
    ·rename_i e hk
     split at h
     ·rename_i te ej
      unfold fh
      rw [ht]
      simp only [hk]
      unfold gE at h
      split at h
      ·rename_i hx
       rw [hx]
       simp only [ej]
       exact h
      ·rename_i hx
       rw [hx]
       simp only [ej]
       exact h
      ·rename_i hx
       rw [hx]
       simp only [ej]
       exact h
      ·cases h
     ·cases h
    ·exact h
   ·cases h
  cases hi with
  |none=>cases mx with
   |none=>exact fw rfl rfl (key _ _ _ h)
   |some _=>cases h
  |some y=>exact fw rfl rfl (key _ _ _ h)
 case build t ps=>
  refine fw (x:=iI T t (pairs ρ ps)) rfl rfl ?_
  unfold iI pairs
  split at h
  ·rename_i ti ht
   simp only [ht]
   split at h
   ·rename_i fs hk
    split at h
    ·rename_i l hl
     obtain ⟨r,rfl⟩:=nC h
     have:=wk (ρ:=ρ) hl h
     simp only [hk]
     split
     ·rename_i l₂ h₂
      have e:some l₂=some r:=h₂.symm.trans this
      cases e;rfl
     ·rename_i h₂
      have e:none=some r:=h₂.symm.trans this
      cases e
    ·cases h
   ·rename_i n e hk
    split at h
    ·rename_i te ej
     obtain ⟨r,rfl⟩:=nC h
     have:=rj (ρ:=ρ) h
     simp only [hk,ej]
     rw [this]
    ·cases h
   ·cases h
  ·cases h
 case lookup t x i ok=>exact fw (x:=fV T t { s with wm:=s.n } (ρ x) (ρ i) ok) rfl rfl h
 case extract t i=>
  unfold cV at h
  split at h
  ·rename_i vs hv
   split at h
   ·rename_i w r hd
    cases h
    exact oM rfl (by simp only [evalOp,hv,hd])
   ·cases h
  ·cases h
 case nilCheck x=>
  unfold Rg at h
  split at h
  all_goals first|(cases h;done)|skip
  all_goals
   rename_i hx
   cases h
   exact oM rfl (by simp only [evalOp,hx])
 case makeFunc fn a b=>
  split at h
  ·unfold vB at h
   split at h
   ·cases h
   ·rename_i hb
    cases h
    exact oM hb rfl
  ·cases h
 case convert a b x=>
  split at h
  ·rename_i ta hta
   split at h
   ·rename_i ka hka
    split at h
    ·rename_i tb htb
     split at h
     ·rename_i kb Bq
      unfold mK at h
      split at h
      ·rename_i q n hx
       cases h
       obtain ⟨kda,sza,ba,za⟩:=ta
       obtain ⟨kdb,szb,bb,zb⟩:=tb
       simp only [] at hka Bq
       subst hka Bq
       refine oM rfl ?_
       simp only [evalOp,df,hta,htb,hx,two,gq]
      ·cases h
     ·cases h
    ·cases h
   ·cases h
  ·cases h
 case call c=>
  have bad: ∀ {b:Builtin},c.callee= .builtin b→(c.args.toList.map ρ).any dB=false→ ∀ {x:Option V},bI T b c.argTypes.toList (c.args.toList.map ρ) { s with wm:=s.n } =one x { s with wm:=s.n } →x=some v→vi T ρ s (.call c)=some v:=by
   intro b hb hnb x Xs hx
   refine fw (x:=x) rfl ?_ hx
   simp only [evalOp,dG,hb,hnb]
   exact Xs
  split at h
  ·rename_i hc
   split at h
   ·rename_i t x hts has
    split at h
    ·rename_i ti ht
     obtain ⟨kd,sz,AX,z⟩:=ti
     have hnb:ρ x≠ .bad→(c.args.toList.map ρ).any dB=false:=fun hb=>by
      rw [has]
      simp only [List.map_cons,List.map_nil,List.any_cons,List.any_nil,Bool.or_false]
      cases hx:ρ x<;>first|rfl|exact absurd hx hb
     cases kd<;>simp only [] at h<;>first|(cases h;done)|skip
     ·unfold Ra at h
      split at h
      ·rename_i st hx
       refine bad hc (hnb (by rw [hx];simp)) (x:=some v) ?_ rfl
       cases h
       simp only [bI,hts,has,List.map_cons,List.map_nil,ht,hx,one]
      ·cases h
     ·unfold aN at h
      split at h
      all_goals first|(cases h;done)|skip
      all_goals
       rename_i hx
       refine bad hc (hnb (by rw [hx];simp)) (x:=some v) ?_ rfl
       cases h
       simp only [bI,hts,has,List.map_cons,List.map_nil,ht,hx,one]
     ·unfold Q9 at h
      split at h
      ·cases h
      ·rename_i hx
       refine bad hc (hnb hx) (x:=some v) ?_ rfl
       cases h
       simp only [bI,hts,has,List.map_cons,List.map_nil,ht,one]
    ·cases h
   ·cases h
  ·rename_i hc
   split at h
   ·rename_i t x hts has
    split at h
    ·rename_i ti ht
     obtain ⟨kd,sz,AX,z⟩:=ti
     have hnb:ρ x≠ .bad→(c.args.toList.map ρ).any dB=false:=fun hb=>by
      rw [has]
      simp only [List.map_cons,List.map_nil,List.any_cons,List.any_nil,Bool.or_false]
      cases hx:ρ x<;>first|rfl|exact absurd hx hb
     cases kd<;>simp only [] at h<;>first|(cases h;done)|skip
     unfold CY at h
     split at h
     ·rename_i hx
      refine bad hc (hnb (by rw [hx];simp)) (x:=some v) ?_ rfl
      cases h
      simp only [bI,hts,has,List.map_cons,List.map_nil,ht,hx,one]
     ·rename_i hx
      split at h
      ·rename_i hg
       refine bad hc (hnb (by rw [hx];simp)) (x:=some v) ?_ rfl
       cases h
       simp only [bI,hts,has,List.map_cons,List.map_nil,ht,hx,hg,one]
      ·cases h
     ·cases h
    ·cases h
   ·cases h
  ·rename_i hc
   unfold EB at h
   split at h
   ·cases h
   ·rename_i hb
    split at h
    ·rename_i x r hx
     refine bad hc hb (x:=ju true x r) ?_ h
     simp only [bI,hx]
    ·cases h
  ·rename_i hc
   unfold EB at h
   split at h
   ·cases h
   ·rename_i hb
    split at h
    ·rename_i x r hx
     refine bad hc hb (x:=ju false x r) ?_ h
     simp only [bI,hx]
    ·cases h
  ·cases h
theorem AD {o:Op} {v:V} (h:yT T ρ s o=some (v,s₂)):evalOp T ρ s o=some (.val v,s₂):=by
 cases o<;>simp only [yT] at h<;>try (cases h;done)
 case alloc t=>
  split at h
  ·rename_i ti ht
   unfold aT at h
   simp only [Option.some.injEq,Prod.mk.injEq] at h
   obtain ⟨rfl,rfl⟩:=h
   simp only [evalOp,ht]
  ·cases h
 case box t x=>
  unfold bM at h
  split at h
  ·cases h
  ·rename_i hb
   unfold aT at h
   simp only [Option.some.injEq,Prod.mk.injEq] at h
   obtain ⟨rfl,rfl⟩:=h
   simp only [evalOp]
 case buildSlice t len ps=>
  have:cI T t len (pairs ρ ps) s=some (v,s₂):=by
   unfold cI pairs
   split at h
   ·rename_i ti ht
    obtain ⟨kd,sz,AX,z⟩:=ti
    cases kd<;>simp only [] at h<;>first|(cases h;done)|skip
    split at h
    ·rename_i te ej
     split at h
     ·rename_i hle
      unfold dL at h
      split at h
      ·rename_i l hl
       simp only [ht,ej,hle,rj hl]
       exact h
      ·cases h
     ·cases h
    ·cases h
   ·cases h
  simp only [evalOp,this,two]
 case store t a x=>
  split at h
  ·rename_i ti ht
   have:storeT ti s (ρ a) (ρ x)=some s₂∧v= .bad:=by
    unfold aB at h
    split at h
    ·cases h
    ·rename_i hb
     split at h
     ·rename_i b o hp
      split at h
      ·rename_i hlen
       split at h
       ·rename_i s₁ hw
        simp only [Option.some.injEq,Prod.mk.injEq] at h
        obtain ⟨rfl,rfl⟩:=h
        refine ⟨?_,rfl⟩
        unfold storeT
        split
        ·rename_i e;exact absurd e hb
        ·rename_i b' o' e' _
         rw [hp] at e'
         cases e'
         rw [hlen]
         exact hw
        ·simp_all
       ·cases h
      ·cases h
     ·cases h
   obtain ⟨h1,rfl⟩:=this
   simp only [evalOp,ht,h1,three]
  ·cases h
 case makeSlice t l c=>simp only [evalOp,h,two]
 case makeMap t r=>
  split at h
  ·rename_i ti ht
   obtain ⟨kd,sz,AX,z⟩:=ti
   cases kd<;>simp only [] at h<;>first|(cases h;done)|skip
   cases r with
   |none=>
    simp only [Rc,Option.some.injEq,Prod.mk.injEq] at h
    obtain ⟨rfl,rfl⟩:=h
    simp only [evalOp,ht]
   |some _=>cases h
  ·cases h
 case mapUpdate t m k v'=>
  unfold SQ at h
  split at h
  ·rename_i s₁ hs
   simp only [Option.some.injEq,Prod.mk.injEq] at h
   obtain ⟨rfl,rfl⟩:=h
   simp only [evalOp,hs,three]
  ·cases h
 case convert a b x=>simp only [evalOp,h,two]
 case call c=>
  split at h
  ·rename_i hc
   split at h
   ·rename_i t u x y hts has
    split at h
    ·rename_i ti ht
     obtain ⟨kd,sz,AX,z⟩:=ti
     cases kd<;>simp only [] at h<;>first|(cases h;done)|skip
     rename_i e
     split at h
     ·rename_i tu Yj
      obtain ⟨kdu,szu,byu,zu⟩:=tu
      have fin: ∀ {te:TI} {y':V},T.get e=some te→ρ y=y'→CJ te e (ρ x) y' s=some (v,s₂)→(c.args.toList.map ρ).any dB=false∧cy te e s (ρ x) (ρ y)=some (v,s₂):=by
       intro te y' ej hy ha
       unfold CJ at ha
       split at ha
       ·cases ha
       ·rename_i hb
        subst hy
        refine ⟨?_,ha⟩
        rw [has]
        simpa using hb
      cases kdu<;>simp only [] at h<;>first|(cases h;done)|skip
      ·split at h
       ·rename_i te ej
        unfold GN at h
        split at h
        ·cases h
        ·rename_i hb
         have h1:(c.args.toList.map ρ).any dB=false:=by
          rw [has];simpa using hb
         simp only [evalOp,dG,hc,h1]
         simp only [bI,hts,has,List.map_cons,List.map_nil,ht,Yj,ej,h,two]
       ·cases h
      ·split at h
       ·rename_i te ej
        unfold Ik at h
        split at h
        ·rename_i st hy
         obtain ⟨h1,h2⟩:=fin ej hy h
         simp only [evalOp,dG,hc,h1]
         rw [hy] at h2
         simp only [bI,hts,has,List.map_cons,List.map_nil,ht,Yj,ej,hy,h2,two]
        ·cases h
       ·cases h
      ·split at h
       ·rename_i te ej
        unfold bT at h
        split at h
        ·cases h
        ·rename_i hy
         obtain ⟨h1,h2⟩:=fin ej rfl h
         simp only [evalOp,dG,hc,h1]
         simp only [bI,hts,has,List.map_cons,List.map_nil,ht,Yj,ej]
         rw [h2];rfl
       ·cases h
     ·cases h
    ·cases h
   ·cases h
  ·rename_i hc
   split at h
   ·rename_i t u x y hts has
    split at h
    ·rename_i ti ht
     obtain ⟨kd,sz,AX,z⟩:=ti
     cases kd<;>simp only [] at h<;>first|(cases h;done)|skip
     split at h
     ·rename_i te ej
      unfold JV at h
      split at h
      ·cases h
      ·rename_i hb
       have hnb:(c.args.toList.map ρ).any dB=false:=by
        rw [has];simpa using hb
       rw [has] at hnb
       simp only [List.map_cons,List.map_nil] at hnb
       simp only [evalOp,dG,hc,has,List.map_cons,List.map_nil,hnb,bI,hts,ht,ej,h,two]
     ·cases h
    ·cases h
   ·cases h
  ·cases h
theorem Mm {o:Op} {v:V} (h:aq s (yT T ρ (aw s) o)=some (v,s₂)):UK T ρ s o=some (v,s₂):=by
 unfold aq at h
 split at h
 ·rename_i w t hr
  have:=AD hr
  unfold UK
  unfold aw at this
  rw [this]
  exact h
 ·cases h
end Go.Vm.X
end
noncomputable section
namespace Go.Vm.X
open Go
variable {O:aL} {G:Tr Func} {T:Types} {s s₂:S} {ρ ρ':Operand→V}
def Sub (e' e:Tr V):Prop:= ∀t,ev e' (.tmp t)= .bad∨ev e (.tmp t)=ev e' (.tmp t)
theorem Sub.refl (e:Tr V):Sub e e:=fun _=> .inr rfl
theorem Sub.trans {a b c:Tr V} (h:Sub a b) (h':Sub b c):Sub a c:=fun t=>by
 rcases h t with h1|h1
 ·exact .inl h1
 ·rcases h' t with h2|h2
  ·exact .inl (by rw [←h1,h2])
  ·exact .inr (by rw [h2,h1])
theorem Sub.ev {e' e:Tr V} (h:Sub e' e) (x:Operand):ev e' x= .bad∨ev e x=ev e' x:=by
 cases x with
 |tmp t=>exact h t
 |const v=>exact .inr rfl
 |global g=>exact .inr rfl
 |func f=>exact .inr rfl
theorem Sub.set {e' e:Tr V} (h:Sub e' e) {v' v:V} (hv:v'= .bad∨v=v') (d:Option Nat):Sub (iN e' d v') (iN e d v):=by
 cases d with
 |none=>exact h
 |some d=>
  intro t
  simp only [iN,Dn]
  by_cases ht:t=d
  ·simp only [ht,if_true];exact hv
  ·simp only [ht,if_false];exact h t
theorem wh (e:Tr V): ∀(L:List Nat) (pre:List V),Sub (Dj L (pre++kQ L e) pre.length) e
 | [],pre=>fun t=> .inl (by simp only [Dj,Hf])
 |t::L,pre=>by
  intro u
  simp only [Dj,Dn,kQ,List.map_cons]
  have hn: ∀(pre:List V) (v:V) (l:List V),nth (pre++v::l) pre.length=v:=by
   intro pre
   induction pre with
   |nil=>intro v l;rfl
   |cons p pre ih=>intro v l;exact ih v l
  by_cases hu:u=t
  ·simp only [hu,if_true,hn];exact .inr trivial
  ·simp only [hu,if_false]
   have:=wh e L (pre++ [X.ev e (.tmp t)]) u
   simp only [List.append_assoc,List.singleton_append,List.length_append,List.length_singleton] at this
   exact this
theorem pb (L:List Nat) (e:Tr V):Sub (pU L (kQ L e)) e:=wh e L []
def Kn (k:Tr V→S→bB) (r:V×S) (nt n0:Nat) (f:F):Prop:= ∃e',Sub e' f.e∧f.nt=nt∧f.ms= []∧f.s.wm≤f.s.n∧n0≤f.s.n∧k e' f.s=some r
def uc (O:aL) (G:Tr Func) (T:Types) (cf:CF):Prop:= ∀f args s r,cf f args s=some r→s.wm≤s.n→Cl O G T f args s fun v s'=>(v,s')=r∧s.n≤s'.n
structure OD (st:Bool) (o:Oper) (x:Fl):Prop where
 w:writer o.op=false→x.f.w=some []
 r:relevant o.op=false→x.f.t=some []∧x.f.w=some []∧x.f.lo=x.f.hi
 z:st=true→x.z= []
 s:x.f.w.isSome=true
inductive Fits (st:Bool):List Oper→List Fl→Prop
 |nil:Fits st [] []
 |cons (o:Oper) (x:Fl) (l:List Oper) (fl:List Fl) (h:OD st o x) (hl:Fits st l fl):Fits st (o::l) (x::fl)
theorem Fits.append {st:Bool} {a b:List Oper} {x y:List Fl} (h:Fits st a x) (h':Fits st b y):Fits st (a++b) (x++y):=by
 induction h with
 |nil=>exact h'
 |cons o x l fl h _ ih=>exact .cons _ _ _ _ h ih
theorem Fits.reverse {st:Bool} {a:List Oper} {x:List Fl} (h:Fits st a x):Fits st a.reverse x.reverse:=by
 induction h with
 |nil=>exact .nil
 |cons o x l fl h _ ih=>simp only [List.reverse_cons];exact ih.append (.cons _ _ _ _ h .nil)
theorem Fits.get {st:Bool} {a:List Oper} {x:List Fl} (h:Fits st a x): ∀ {i:Nat} {y:Fl},x[i]? =some y→ ∃o,a[i]? =some o∧OD st o y:=by
 induction h with
 |nil=>intro i y h;simp at h
 |cons o x l fl h _ ih=>
  intro i y hi
  cases i with
  |zero=>simp at hi;subst hi;exact ⟨o,rfl,h⟩
  |succ i=>simp at hi;simpa using ih hi
theorem wg {ops:Array Oper} {fl:List Fl} (h:Fits (dY ops) ops.toList fl) (hd:zz ops=true):jx ops fl=true:=by
 unfold jx
 rw [Bool.and_eq_true]
 constructor
 ·unfold je
  rw [List.all_eq_true]
  intro p hp
  obtain ⟨x,i⟩:=p
  rw [List.mem_zipIdx_iff_getElem?] at hp
  simp only [List.getElem?_map,Option.map_eq_some_iff] at hp
  obtain ⟨xf,hx,rfl⟩:=hp
  obtain ⟨o,ho,hf⟩:=h.get hx
  simp only []
  split
  ·rfl
  ·rename_i hne
   have hw:writer o.op=true:=by
    cases hw:writer o.op with
    |true=>rfl
    |false=>exact absurd (hf.w hw) hne
   rw [List.all_eq_true]
   intro q hq
   obtain ⟨y,j⟩:=q
   rw [List.mem_zipIdx_iff_getElem?] at hq
   simp only [List.getElem?_map,Option.map_eq_some_iff] at hq
   obtain ⟨yf,hy,rfl⟩:=hq
   obtain ⟨o₂,Ue,T6⟩:=h.get hy
   simp only []
   unfold zz at hd
   rw [List.all_eq_true] at hd
   have h1:=hd (o,i) (by rw [List.mem_zipIdx_iff_getElem?];simpa using ho)
   simp only [hw,Bool.not_true,Bool.false_or] at h1
   rw [List.all_eq_true] at h1
   have h2:=h1 (o₂,j) (by rw [List.mem_zipIdx_iff_getElem?];simpa using Ue)
   simp only [Bool.or_eq_true] at h2
   rcases h2 with h2|h2
   ·have hr:relevant o₂.op=false:=by simpa using h2
    obtain ⟨k1,k2,k3⟩:=T6.r hr
    have:xf.f.fF yf.f=false:=by
     unfold de.fF
     rw [k1,k2]
     cases Nb:xf.f.w with
     |none=>have:=hf.s;rw [Nb] at this;cases this
     |some l=>
      simp only [Bool.or_eq_false_iff]
      refine ⟨⟨?_,?_⟩,?_⟩
      ·cases l<;>simp [Reach.meets]
      ·cases l<;>simp [Reach.meets]
      ·rw [List.any_eq_false]
       intro b hb
       simp only [Bool.and_eq_true,Nat.ble_eq,Nat.blt_eq]
       omega
    rw [this];rfl
   ·rw [h2];simp
 ·unfold MF
  rw [Bool.and_eq_true]
  cases hw:dY ops with
  |true=>
   rw [hw] at h
   have hz: ∀x∈fl,x.z= []:=fun x hx=>by
    obtain ⟨i,hi⟩:=List.mem_iff_getElem?.1 hx
    obtain ⟨o,_,hf⟩:=h.get hi
    exact hf.z rfl
   constructor
   ·rw [List.all_eq_true]
    intro x hx
    simp only [hz x hx]
   ·rw [Bool.or_eq_true]
    left
    rw [List.all_eq_true]
    intro x hx
    obtain ⟨i,hi⟩:=List.mem_iff_getElem?.1 hx
    obtain ⟨o,_,hf⟩:=h.get hi
    exact hf.s
  |false=>
   have hnw: ∀x∈fl,x.f.w=some []:=fun x hx=>by
    obtain ⟨i,hi⟩:=List.mem_iff_getElem?.1 hx
    obtain ⟨o,ho,hf⟩:=h.get hi
    refine hf.w ?_
    unfold dY at hw
    rw [List.any_eq_false] at hw
    have:=hw o (List.mem_of_getElem? ho)
    simpa using this
   constructor
   ·rw [List.all_eq_true]
    intro x hx
    split
    ·rfl
    ·rw [List.all_eq_true]
     intro y hy
     rw [hnw y hy]
     rfl
   ·rw [Bool.or_eq_true]
    left
    rw [List.all_eq_true]
    intro x hx
    rw [hnw x hx];rfl
theorem sW {o:Op} (hw:writer o=false) (hc: ∀c,o≠ .call c):bA ρ o=some []:=by
 cases o<;>first|rfl|(simp [writer] at hw;done)|exact absurd rfl (hc _)
theorem nw {o:Op} (hc: ∀c f,o= .call c→c.callee≠ .value f∧ ∀a b,c.callee≠ .invoke a b):(bA ρ o).isSome=true:=by
 cases o<;>try rfl
 rename_i c
 simp only [bA]
 cases lu:c.callee with
 |builtin b=>simp only [];split<;>rfl
 |invoke a b=>exact absurd lu ((hc c (.tmp 0) rfl).2 a b)
 |value f=>exact absurd lu (hc c f rfl).1
theorem xF {o:Op} (hr:relevant o=false):ag ρ o=some []:=by
 cases o<;>first|rfl|(simp [relevant] at hr;done)
theorem oz {o:Op} (hk:kindOf T o= .pure∨kindOf T o= .state): ∀c f,o= .call c→c.callee≠ .value f∧ ∀a b,c.callee≠ .invoke a b:=by
 rintro c f rfl
 constructor
 ·intro h;simp only [kindOf,h] at hk;rcases hk with h|h<;>cases h
 ·intro a b h;simp only [kindOf,h] at hk;rcases hk with h|h<;>cases h
theorem rP {o:Op} (hk:kindOf T o= .pure∨kindOf T o= .state) (hw:writer o=false):bA ρ o=some []:=by
 refine sW hw ?_
 rintro c rfl
 have:=oz hk c (.tmp 0) rfl
 simp only [writer] at hw
 cases lu:c.callee with
 |builtin b=>rw [lu] at hw;cases hw
 |invoke a b=>exact absurd lu (this.2 a b)
 |value f=>exact absurd lu (oz hk c f rfl).1
theorem Eo {o:Op} (hr:relevant o=false) (hk:kindOf T o= .pure∨kindOf T o= .state):kindOf T o= .pure:=by
 cases o<;>first|rfl|(simp [relevant] at hr;done)|(rcases hk with h|h<;>(cases h;done))
theorem fH {ops:Array Oper} {e' e:Tr V} (hs:Sub e' e) {o:Oper} {g:V} {want:Bool} (hg:guardOf ops (ev e') o=some (g,want)) {x:Option V} {v:V} (h:ay g want x=some v):
  (cg ops e o=some true∧x=some v)∨(cg ops e o=some false∧v= .dQ []):=by
 rw [sy]
 unfold guardOf at hg
 unfold AP
 cases ho:o.guard with
 |none=>rw [ho] at hg;cases hg
 |some p=>
  obtain ⟨j,w⟩:=p
  rw [ho] at hg
  simp only [] at hg ⊢
  unfold ay at h
  cases hd:(ops[j]?).bind (·.dst) with
  |none=>
   rw [hd] at hg
   simp only [Option.some.injEq,Prod.mk.injEq] at hg
   obtain ⟨rfl,rfl⟩:=hg
   simp only [] at h ⊢
   cases w<;>simp at h<;>exact .inr ⟨by simp,h.symm⟩
  |some d=>
   rw [hd] at hg
   simp only [Option.some.injEq,Prod.mk.injEq] at hg
   obtain ⟨hg,rfl⟩:=hg
   simp only []
   split at h
   ·rename_i b
    have:ev e (.tmp d)= .bool b:=by
     rcases hs d with h1|h1
     ·rw [h1] at hg;cases hg
     ·rw [h1,hg]
    rw [this]
    simp only []
    split at h
    ·rename_i hb;exact .inl ⟨by rw [hb],h⟩
    ·rename_i hb;cases h;exact .inr ⟨by rw [hb],rfl⟩
   ·have:ev e (.tmp d)= .dQ []:=by
     rcases hs d with h1|h1
     ·rw [h1] at hg;cases hg
     ·rw [h1,hg]
    rw [this]
    cases h
    exact .inr ⟨rfl,rfl⟩
   ·cases h
theorem pW {ops:Array Oper} {e' e:Tr V} (hs:Sub e' e) {o:Oper} {g:V} {want:Bool} (hg:guardOf ops (ev e') o=some (g,want)) {x:Option (V×S)} {v:V} (h:fT g want x s=some (v,s₂)):
  (cg ops e o=some true∧x=some (v,s₂))∨(cg ops e o=some false∧v= .dQ []∧s₂=s):=by
 unfold fT at h
 split at h
 ·rename_i b
  split at h
  ·rename_i hb
   have:=fH hs hg (x:=some (.bool true)) (v:= .bool true) (by simp only [ay,hb])
   rcases this with ⟨h1,_⟩|⟨_,h2⟩
   ·exact .inl ⟨h1,h⟩
   ·cases h2
  ·rename_i hb
   have:=fH hs hg (x:=some (.bool true)) (v:= .dQ []) (by simp only [ay,hb])
   rcases this with ⟨_,h2⟩|⟨h1,_⟩
   ·cases h2
   ·simp only [Option.some.injEq,Prod.mk.injEq] at h
    exact .inr ⟨h1,h.1.symm,h.2.symm⟩
 ·have:=fH hs hg (x:=some (.bool true)) (v:= .dQ []) (by simp only [ay])
  rcases this with ⟨_,h2⟩|⟨h1,_⟩
  ·cases h2
  ·simp only [Option.some.injEq,Prod.mk.injEq] at h
   exact .inr ⟨h1,h.1.symm,h.2.symm⟩
 ·cases h
theorem ig {ops:Array Oper} {e' e:Tr V} {o:Oper} (hg:guardOf ops (ev e') o=none):cg ops e o=some true:=by
 rw [sy]
 unfold guardOf at hg
 unfold AP
 cases ho:o.guard with
 |none=>rfl
 |some p=>
  obtain ⟨j,w⟩:=p
  rw [ho] at hg
  simp only [] at hg
  cases hd:(ops[j]?).bind (·.dst) with
  |none=>rw [hd] at hg;cases hg
  |some d=>rw [hd] at hg;cases hg
theorem vj {e' e:Tr V} (hs:Sub e' e) {o:Op} (hk:kindOf T o= .pure) {v:V} (h:vi T (ev e') s o=some v):rS T e s o=some (.val v, { s with wm:=s.n }):=by
 unfold vi at h
 split at h
 ·cases h
 ·rename_i hb
  split at h
  ·rename_i w t lv
   cases h
   have hnb:=mw lv (.inl hk) hb
   have hc:evalOp T (ev e') { s with wm:=s.n } o=evalOp T (ev e) { s with wm:=s.n } o:=kz fun x hx=>((hs.ev x).resolve_left (hnb x hx)).symm
   have:=LM hk lv
   subst this
   unfold rS
   rw [←hc];exact lv
  ·cases h
theorem nY {o:Op} (hk:kindOf T o= .state):oT ρ o=false:=by
 cases o<;>first|rfl|(cases hk;done)
theorem Ml {e' e:Tr V} (hs:Sub e' e) {o:Op} (hk:kindOf T o= .state) {v:V} (h:UK T (ev e') s o=some (v,s₂)): ∃t,rS T e s o=some (.val v,t)∧s₂= { t with wm:=min s.wm t.wm } ∧s.n≤t.n:=by
 unfold UK at h
 split at h
 ·rename_i w t lv
  simp only [Option.some.injEq,Prod.mk.injEq] at h
  obtain ⟨rfl,rfl⟩:=h
  have hnb:=mw lv (.inr hk) (nY hk)
  have hc:evalOp T (ev e') { s with wm:=s.n } o=evalOp T (ev e) { s with wm:=s.n } o:=kz fun x hx=>((hs.ev x).resolve_left (hnb x hx)).symm
  have hn:=wi lv
  exact ⟨t,by unfold rS;rw [←hc];exact lv,rfl,hn⟩
 ·cases h
theorem mz: ∀ {args lH:List V} {bs:List Nat} {s s₂:S},dA args s=(lH,bs,s₂)→s₂.n=s.n∧s₂.wm=s.wm
 | [],_,_,s,s₂,h=>by
  simp only [dA,Prod.mk.injEq] at h
  obtain ⟨_,_,rfl⟩:=h
  exact ⟨rfl,rfl⟩
 |v::args,_,_,s,s₂,h=>by
  unfold dA at h
  split at h
  ·rename_i v' bs hf
   obtain ⟨h1,h2,_⟩:=jj bs s
   split at h
   rename_i hr
   obtain ⟨k1,k2⟩:=mz hr
   simp only [Prod.mk.injEq] at h
   obtain ⟨_,_,rfl⟩:=h
   exact ⟨k1.trans h1,k2.trans h2⟩
  ·split at h
   rename_i hr
   obtain ⟨k1,k2⟩:=mz hr
   simp only [Prod.mk.injEq] at h
   obtain ⟨_,_,rfl⟩:=h
   exact ⟨k1,k2⟩
theorem um {cf:CF} (vC:uc O G T cf) {nt n0:Nat} {dr:Bool} {ops:Array Oper} (hd:dr=true→zz ops=true) {r:V×S} : ∀ {l:List Oper} {done:List Oper} {e':Tr V} {s:S} {k:Tr V→S→bB},
  fA cf T nt dr (dY ops) ops l e' s k=some r→done.reverse++l=ops.toList→ ∀ {e:Tr V} {fl:List Fl},Sub e' e→s.wm≤s.n→n0≤s.n→(dr=true→Fits (dY ops) done fl)→
  Rn O G T ops dr fl l ⟨e,nt,s, []⟩ (Kn k r nt n0):=by
 intro l
 induction l with
 |nil=>
  intro done e' s k h hl e fl hs xU yE hf
  simp only [fA] at h
  have hk:Kn k r nt n0 ⟨e,nt,s, []⟩:=⟨e',hs,rfl,rfl,xU,yE,h⟩
  cases dr with
  |false=>exact JB hk
  |true=>
   refine sX ?_ hk
   refine wg ?_ (hd rfl)
   rw [←hl,List.append_nil]
   exact (hf rfl).reverse
 |cons o l ih=>
  intro done e' s k h hl e fl hs xU yE hf
  have fg:(o::done).reverse++l=ops.toList:=by simpa using hl
  unfold fA at h
  cases rz:mX o.dst nt with
  |false=>rw [rz] at h;cases h
  |true=>
   rw [rz] at h
   simp only [] at h
   have Jf: ∀ {v:V},cg ops e o=some false→v= .dQ []→fA cf T nt dr (dY ops) ops l (iN e' o.dst v) s k=some r→Rn O G T ops dr fl (o::l) ⟨e,nt,s, []⟩ (Kn k r nt n0):=by
    rintro v hw rfl hk
    refine Cz hw rz ?_
    rw [Nat.min_self]
    refine ih hk fg (hs.set (.inr rfl) _) xU yE fun uB=> ?_
    subst uB
    exact .cons _ _ _ _ ⟨fun _=>rfl,fun _=>⟨rfl,rfl,rfl⟩,fun _=>rfl,rfl⟩ (hf rfl)
   have val: ∀ {v' v:V},cg ops e o=some true→rS T e s o.op=some (.val v, { s with wm:=s.n })→(v'= .bad∨v=v')→(writer o.op=false→bA (ev e) o.op=some [])→
     (bA (ev e) o.op).isSome=true→fA cf T nt dr (dY ops) ops l (iN e' o.dst v') s k=some r→Rn O G T ops dr fl (o::l) ⟨e,nt,s, []⟩ (Kn k r nt n0):=by
    intro v' v hw lv hv HL Ll hk
    refine ue hw lv rz ?_
    have hm:({ s with wm:=min s.wm s.n } :S)=s:=by rw [Nat.min_eq_left xU]
    simp only [hm]
    refine ih hk fg (hs.set hv _) xU yE fun uB=> ?_
    subst uB
    have hb:Nat.blt s.n s.n=false:=by
     cases hx:Nat.blt s.n s.n with
     |false=>rfl
     |true=>rw [Nat.blt_eq] at hx;omega
    refine .cons _ _ _ _ ⟨fun _=> ?_,fun hr=>⟨xF hr,?_,rfl⟩,fun _=>rfl,?_⟩ (hf rfl)
    all_goals simp only [hb,writes]
    rfl
   have CE: ∀ {x:Operand},(o.op= .move x∨o.op= .assign x)→rS T e s o.op=some (.val (ev e x), { s with wm:=s.n }):=by
    rintro x (h|h)<;>rw [h]<;>rfl
   split at h
   ·
    rename_i x hk
    have lA:o.op= .move x∨o.op= .assign x:=by
     cases ho:o.op<;>rw [ho] at hk<;>simp only [kindOf] at hk<;>try (cases hk;done)
     ·cases hk;exact .inl rfl
     ·cases hk;exact .inr rfl
     ·split at hk<;>cases hk
     ·split at hk<;>cases hk
    have Am:bA (ev e) o.op=some []:=by rcases lA with h|h<;>rw [h]<;>rfl
    split at h
    ·rename_i hg
     exact val (ig hg) (CE lA) (hs.ev x) (fun _=>Am) (by rw [Am];rfl) h
    ·rename_i g want hg
     rw [lJ] at h
     split at h
     ·rename_i v hv
      rcases fH hs hg hv with ⟨h1,h2⟩|⟨h1,h2⟩
      ·cases h2
       exact val h1 (CE lA) (hs.ev x) (fun _=>Am) (by rw [Am];rfl) h
      ·exact Jf h1 h2 h
     ·cases h
   ·
    rename_i c a b hk
    have lA:o.op= .pick c a b:=by
     cases ho:o.op<;>rw [ho] at hk<;>simp only [kindOf] at hk<;>try (cases hk;done)
     ·cases hk;rfl
     ·split at hk<;>cases hk
     ·split at hk<;>cases hk
    have Am:bA (ev e) o.op=some []:=by rw [lA];rfl
    have hp: ∀ {v:V},bn (ev e' c) (ev e' a) (ev e' b)=some v→ ∃w,rS T e s o.op=some (.val w, { s with wm:=s.n })∧(v= .bad∨w=v):=by
     intro v hv
     unfold bn at hv
     split at hv
     ·rename_i hc
      cases hv
      have:ev e c= .bool true:=by
       rcases hs.ev c with h1|h1
       ·rw [h1] at hc;cases hc
       ·rw [h1,hc]
      exact ⟨ev e a,by rw [lA];simp only [rS,evalOp,this],hs.ev a⟩
     ·rename_i hc
      cases hv
      have:ev e c= .bool false:=by
       rcases hs.ev c with h1|h1
       ·rw [h1] at hc;cases hc
       ·rw [h1,hc]
      exact ⟨ev e b,by rw [lA];simp only [rS,evalOp,this],hs.ev b⟩
     ·cases hv
    split at h
    ·rename_i hg
     rw [lJ] at h
     split at h
     ·rename_i v hv
      obtain ⟨w,h1,h2⟩:=hp hv
      exact val (ig hg) h1 h2 (fun _=>Am) (by rw [Am];rfl) h
     ·cases h
    ·rename_i g want hg
     rw [lJ] at h
     split at h
     ·rename_i v hv
      rcases fH hs hg hv with ⟨h1,h2⟩|⟨h1,h2⟩
      ·obtain ⟨w,h3,h4⟩:=hp h2
       exact val h1 h3 h4 (fun _=>Am) (by rw [Am];rfl) h
      ·exact Jf h1 h2 h
     ·cases h
   ·
    rename_i hk
    have Am:=fun hw=>rP (ρ:=ev e) (.inl hk) hw
    have Ll:(bA (ev e) o.op).isSome=true:=nw (oz (.inl hk))
    split at h
    ·rename_i hg
     rw [lJ] at h
     split at h
     ·rename_i v hv
      exact val (ig hg) (vj hs hk (qM hv)) (.inr rfl) Am Ll h
     ·cases h
    ·rename_i g want hg
     rw [lJ] at h
     split at h
     ·rename_i v hv
      rcases fH hs hg hv with ⟨h1,h2⟩|⟨h1,h2⟩
      ·exact val h1 (vj hs hk (qM h2)) (.inr rfl) Am Ll h
      ·exact Jf h1 h2 h
     ·cases h
   ·
    rename_i hk
    have st: ∀ {v:V} {s₂:S},cg ops e o=some true→aq s (yT T (ev e') (aw s) o.op)=some (v,s₂)→fA cf T nt dr (dY ops) ops l (iN e' o.dst v) s₂ k=some r→Rn O G T ops dr fl (o::l) ⟨e,nt,s, []⟩ (Kn k r nt n0):=by
     intro v s₂ hw hv XS
     obtain ⟨t,h1,rfl,h3⟩:=Ml hs hk (Mm hv)
     refine ue hw h1 rz ?_
     refine ih XS fg (hs.set (.inr rfl) _) (by simp only [];omega) (by simp only [];omega) fun uB=> ?_
     subst uB
     have Am:=fun hw=>rP (ρ:=ev e) (.inr hk) hw
     have Ll:(bA (ev e) o.op).isSome=true:=nw (oz (.inr hk))
     refine .cons _ _ _ _ ⟨fun hw=> ?_,fun hr=> ?_,fun _=>rfl,?_⟩ (hf rfl)
     ·simp only [writes]
      split
      ·rfl
      ·exact Am hw
     ·have:=Eo (T:=T) hr (.inr hk)
      rw [this] at hk;cases hk
     ·simp only [writes]
      split
      ·rfl
      ·exact Ll
    split at h
    ·rename_i hg
     rw [lI] at h
     split at h
     ·rename_i v s₂ hv
      exact st (ig hg) hv h
     ·cases h
    ·rename_i g want hg
     rw [lI] at h
     split at h
     ·rename_i v s₂ hv
      rcases pW hs hg hv with ⟨h1,h2⟩|⟨h1,h2,h3⟩
      ·exact st h1 h2 h
      ·subst h3;exact Jf h1 h2 h
     ·cases h
   ·
    rename_i f args hk
    have lA: ∃c,o.op= .call c∧c.callee= .value f∧c.args.toList=args:=by
     cases ho:o.op<;>rw [ho] at hk<;>simp only [kindOf] at hk<;>try (cases hk;done)
     ·split at hk<;>cases hk
     ·rename_i c
      split at hk<;>first|(cases hk;done)|skip
      rename_i f' DR
      cases hk
      exact ⟨c,rfl,DR,rfl⟩
    obtain ⟨c,wL,Hr,Xv⟩:=lA
    have cl: ∀ {v:V} {s₂:S},cg ops e o=some true→au cf dr (dY ops) (ev e' f) (args.map (ev e')) s=some (v,s₂)→fA cf T nt dr (dY ops) ops l (iN e' o.dst v) s₂ k=some r→
      Rn O G T ops dr fl (o::l) ⟨e,nt,s, []⟩ (Kn k r nt n0):=by
     intro v s₂ hw hv XS
     unfold au at hv
     split at hv
     ·cases hv
     ·rename_i hnb
      have hargs:args.map (ev e)=args.map (ev e'):=List.map_congr_left fun x hx=>(hs.ev x).resolve_left fun qk=>by
       have:(args.map (ev e')).any dB=true:=by
        rw [List.any_eq_true]
        exact ⟨_,List.mem_map.2 ⟨x,hx,rfl⟩,by rw [qk];rfl⟩
       rw [this] at hnb;cases hnb
      split at hv
      ·rename_i g first cap hfn
       have XF:ev e f= .fn g first cap:=by
        rcases hs.ev f with h1|h1
        ·rw [h1] at hfn;cases hfn
        ·rw [h1,hfn]
       split at hv
       rename_i lH bs s₁ hz
       split at hv
       ·rename_i v₁ s₄ eY
        split at hv
        ·rename_i hok
         simp only [Option.some.injEq,Prod.mk.injEq] at hv
         obtain ⟨rfl,rfl⟩:=hv
         have lv:rS T e s o.op=some (.call g (first++(args.map (ev e')++cap)), { s with wm:=s.n }):=by
          unfold rS
          rw [wL]
          simp only [evalOp,dG,Hr,XF,Xv,hargs]
         obtain ⟨lY,wK⟩:=mz hz
         simp only [] at lY wK
         refine zo hw lv hz rz ((vC _ _ _ _ eY (by omega)).mono fun v s' hvs=> ?_)
         obtain ⟨hvs,IN⟩:=hvs
         cases hvs
         obtain ⟨l1,l2⟩:=least_le bs (min s.wm s₄.wm)
         refine ih XS fg (hs.set (.inr rfl) _) (by simp only [];omega) (by simp only [];omega) fun uB=> ?_
         subst uB
         have D9:Nat.ble s.n s₄.wm=true∧(dY ops=true→bs= []):=by
          unfold xa at hok
          cases hh:dY ops with
          |true=>
           rw [hh] at hok
           simp only [Bool.and_eq_true] at hok
           exact ⟨hok.1,fun _=>by simpa using hok.2⟩
          |false=>rw [hh] at hok;exact ⟨hok,fun h=>by cases h⟩
         have hb:Nat.blt s₄.wm s.n=false:=by
          cases hx:Nat.blt s₄.wm s.n with
          |false=>rfl
          |true=>
           rw [Nat.blt_eq] at hx
           have:=D9.1
           rw [Nat.ble_eq] at this
           omega
         refine .cons _ _ _ _ ⟨fun _=> ?_,fun hr=> ?_,D9.2,?_⟩ (hf rfl)
         ·simp only [hb,writes]
         ·rw [wL] at hr;cases hr
         ·simp only [hb,writes];rfl
        ·cases hv
       ·cases hv
      ·cases hv
    split at h
    ·rename_i hg
     rw [lI] at h
     split at h
     ·rename_i v s₂ hv
      exact cl (ig hg) hv h
     ·cases h
    ·rename_i g want hg
     rw [lI] at h
     split at h
     ·rename_i v s₂ hv
      rcases pW hs hg hv with ⟨h1,h2⟩|⟨h1,h2,h3⟩
      ·exact cl h1 h2 h
      ·subst h3;exact Jf h1 h2 h
     ·cases h
   ·cases h
theorem De {ops:Array Oper} {fl:List Fl} (h:bE (iR [] ops.toList) fl=true):jx ops fl=true:=by
 unfold bE at h
 unfold jx
 rw [Bool.and_eq_true] at h ⊢
 refine ⟨?_,h.2⟩
 have h1:=h.1
 unfold je
 rw [List.all_eq_true] at h1 ⊢
 intro p hp
 obtain ⟨x,i⟩:=p
 rw [List.mem_zipIdx_iff_getElem?] at hp
 simp only [List.getElem?_map,Option.map_eq_some_iff] at hp
 obtain ⟨xf,hx,rfl⟩:=hp
 have h2:=h1 (xf,i) (by rw [List.mem_zipIdx_iff_getElem?];exact hx)
 simp only [] at h2 ⊢
 split
 ·rfl
 ·rename_i hne
  split at h2
  ·rename_i hw;exact absurd hw hne
  ·rw [List.all_eq_true] at h2 ⊢
   intro q hq
   obtain ⟨y,j⟩:=q
   rw [List.mem_zipIdx_iff_getElem?] at hq
   simp only [List.getElem?_map,Option.map_eq_some_iff] at hq
   obtain ⟨yf,hy,rfl⟩:=hq
   exact h2 (yf,j) (by rw [List.mem_zipIdx_iff_getElem?];exact hy)
theorem nk {o:Op} (h: ∀x∈o.operands,ρ x=ρ' x):ag ρ o=ag ρ' o:=by
 cases o<;>try rfl
 case load t a=>simp only [ag];rw [h a (by simp [Op.operands])]
 case store t a x=>simp only [ag];rw [h a (by simp [Op.operands])]
 case lookup t x i ok=>simp only [ag];rw [h x (by simp [Op.operands])]
 case mapUpdate t m k v=>simp only [ag];rw [h m (by simp [Op.operands])]
 case convert a b x=>simp only [ag];rw [h x (by simp [Op.operands])]
 case call c=>
  simp only [ag]
  cases hc:c.callee with
  |builtin b=>
   simp only []
   congr 1
   rw [List.flatMap_def,List.flatMap_def]
   congr 1
   refine List.map_congr_left fun x hx=> ?_
   rw [h x (by simp only [Op.operands,Call.operands,hc];simpa using hx)]
  |invoke a b=>rfl
  |value f=>rfl
theorem sB {o:Op} (h: ∀x∈o.operands,ρ x=ρ' x):bA ρ o=bA ρ' o:=by
 cases o<;>try rfl
 case store t a x=>simp only [bA];rw [h a (by simp [Op.operands])]
 case mapUpdate t m k v=>simp only [bA];rw [h m (by simp [Op.operands])]
 case call c=>
  simp only [bA]
  cases hc:c.callee with
  |builtin b=>
   simp only []
   cases hl:c.args.toList with
   |nil=>rfl
   |cons x l=>
    simp only []
    rw [h x (by
     have hm:x∈c.args.toList:=by rw [hl];simp
     simp only [Op.operands,Call.operands,hc];simpa using hm)]
  |invoke a b=>rfl
  |value f=>rfl
theorem CN (n:Nat):Nat.blt n n=false:=by
 cases hx:Nat.blt n n with
 |false=>rfl
 |true=>rw [Nat.blt_eq] at hx;omega
theorem sK {cf:CF} (vC:uc O G T cf) {nt n0:Nat} {ops:Array Oper} {r:V×S} : ∀ {l:List Oper} {fl:List Fl} {e':Tr V} {s:S} {k:Tr V→S→bB},
  nZ cf T nt ops (iR [] ops.toList) l fl e' s k=some r→ ∀ {e:Tr V},Sub e' e→s.wm≤s.n→n0≤s.n→Rn O G T ops true fl l ⟨e,nt,s, []⟩ (Kn k r nt n0):=by
 intro l
 induction l with
 |nil=>
  intro fl e' s k h e hs xU yE
  unfold nZ bU at h
  split at h
  ·rename_i hd
   exact sX (De hd) ⟨e',hs,rfl,rfl,xU,yE,h⟩
  ·cases h
 |cons o l ih=>
  intro fl e' s k h e hs xU yE
  unfold nZ at h
  split at h
  ·cases h
  ·rename_i rz
   rw [vQ] at h
   split at h
   ·rename_i v s₂ x hv
    have Jf:cg ops e o=some false→bk s (.dQ [])=some (v,s₂,x)→Rn O G T ops true fl (o::l) ⟨e,nt,s, []⟩ (Kn k r nt n0):=by
     intro hw hi
     unfold bk at hi
     simp only [Option.some.injEq,Prod.mk.injEq] at hi
     obtain ⟨rfl,rfl,rfl⟩:=hi
     refine Cz hw rz ?_
     rw [Nat.min_self]
     exact ih h (hs.set (.inr rfl) _) xU yE
    have wan:cg ops e o=some true→Zi cf T e' s o.op=some (v,s₂,x)→Rn O G T ops true fl (o::l) ⟨e,nt,s, []⟩ (Kn k r nt n0):=by
     intro hw ho
     have hm:({ s with wm:=min s.wm s.n } :S)=s:=by rw [Nat.min_eq_left xU]
     have val: ∀ {v₁:V} {t:Reach},rS T e s o.op=some (.val v₁, { s with wm:=s.n })→(v= .bad∨v₁=v)→ag (ev e) o.op=t→some (v,s,(⟨⟨t,some [],s.n,s.n⟩, []⟩:Fl))=some (v,s₂,x)→
       Rn O G T ops true fl (o::l) ⟨e,nt,s, []⟩ (Kn k r nt n0):=by
      rintro v₁ t lv hvv rfl hx
      simp only [Option.some.injEq,Prod.mk.injEq,true_and] at hx
      obtain ⟨rfl,rfl⟩:=hx
      refine ue hw lv rz ?_
      simp only [hm,CN,writes]
      exact ih h (hs.set hvv _) xU yE
     unfold Zi at ho
     split at ho
     ·rename_i y hk
      have lA:o.op= .move y∨o.op= .assign y:=by
       cases ho:o.op<;>rw [ho] at hk<;>simp only [kindOf] at hk<;>try (cases hk;done)
       ·cases hk;exact .inl rfl
       ·cases hk;exact .inr rfl
       ·split at hk<;>cases hk
       ·split at hk<;>cases hk
      have lv:rS T e s o.op=some (.val (ev e y), { s with wm:=s.n }):=by rcases lA with h|h<;>rw [h]<;>rfl
      have ht:ag (ev e) o.op=some []:=by rcases lA with h|h<;>rw [h]<;>rfl
      unfold bk at ho
      have ji:ev e' y=v:=by simp only [Option.some.injEq,Prod.mk.injEq] at ho;exact ho.1
      rw [ji] at ho
      exact val lv (by rw [←ji];exact hs.ev y) ht ho
     ·rename_i c a b hk
      have lA:o.op= .pick c a b:=by
       cases ho:o.op<;>rw [ho] at hk<;>simp only [kindOf] at hk<;>try (cases hk;done)
       ·cases hk;rfl
       ·split at hk<;>cases hk
       ·split at hk<;>cases hk
      have ht:ag (ev e) o.op=some []:=by rw [lA];rfl
      unfold ar at ho
      split at ho
      ·rename_i v₀ hp
       have ji:v₀=v:=by simp only [Option.some.injEq,Prod.mk.injEq] at ho;exact ho.1
       subst ji
       unfold bn at hp
       split at hp
       ·rename_i hc
        cases hp
        have:ev e c= .bool true:=by
         rcases hs.ev c with h1|h1
         ·rw [h1] at hc;cases hc
         ·rw [h1,hc]
        exact val (by rw [lA];simp only [rS,evalOp,this]) (hs.ev a) ht ho
       ·rename_i hc
        cases hp
        have:ev e c= .bool false:=by
         rcases hs.ev c with h1|h1
         ·rw [h1] at hc;cases hc
         ·rw [h1,hc]
        exact val (by rw [lA];simp only [rS,evalOp,this]) (hs.ev b) ht ho
       ·cases hp
      ·cases ho
     ·rename_i hk
      unfold ar at ho
      split at ho
      ·rename_i v₀ hp
       have ji:v₀=v:=by simp only [Option.some.injEq,Prod.mk.injEq] at ho;exact ho.1
       subst ji
       have hnb: ∀x∈o.op.operands,ev e x=ev e' x:=by
        have hp:=qM hp
        unfold vi at hp
        split at hp
        ·cases hp
        ·rename_i hb
         split at hp
         ·rename_i lv
          exact fun x hx=>(hs.ev x).resolve_left (mw lv (.inl hk) hb x hx)
         ·cases hp
       exact val (vj hs hk (qM hp)) (.inr rfl) (nk hnb) ho
      ·cases ho
     ·rename_i hk
      unfold dD at ho
      split at ho
      ·rename_i v₀ t X8
       have lv:evalOp T (ev e') { s with wm:=s.n } o.op=some (.val v₀,t):=AD X8
       simp only [Option.some.injEq,Prod.mk.injEq] at ho
       obtain ⟨rfl,rfl,rfl⟩:=ho
       have hnb: ∀x∈o.op.operands,ev e x=ev e' x:=fun x hx=>(hs.ev x).resolve_left (mw lv (.inr hk) (nY hk) x hx)
       have hc:evalOp T (ev e') { s with wm:=s.n } o.op=evalOp T (ev e) { s with wm:=s.n } o.op:=kz fun x hx=>(hnb x hx).symm
       have hn:=wi lv
       simp only [] at hn
       refine ue hw (by unfold rS;rw [←hc];exact lv) rz ?_
       rw [nk hnb]
       have An:writes (ev e) o.op (Nat.blt t.wm s.n)=(match Nat.blt t.wm s.n with
        |true=>bA (ev e') o.op
        |false=>some []):=by
        unfold writes
        cases Nat.blt t.wm s.n with
        |false=>rfl
        |true=>exact sB hnb
       rw [An]
       exact ih h (hs.set (.inr rfl) _) (by simp only [];omega) (by simp only [];omega)
      ·cases ho
     ·rename_i f args hk
      have lA: ∃c,o.op= .call c∧c.callee= .value f∧c.args.toList=args:=by
       cases ho:o.op<;>rw [ho] at hk<;>simp only [kindOf] at hk<;>try (cases hk;done)
       ·split at hk<;>cases hk
       ·rename_i c
        split at hk<;>first|(cases hk;done)|skip
        rename_i f' DR
        cases hk
        exact ⟨c,rfl,DR,rfl⟩
      obtain ⟨c,wL,Hr,Xv⟩:=lA
      unfold aH at ho
      split at ho
      ·cases ho
      ·rename_i hnb
       have hargs:args.map (ev e)=args.map (ev e'):=List.map_congr_left fun x hx=>(hs.ev x).resolve_left fun qk=>by
        have:(args.map (ev e')).any dB=true:=by
         rw [List.any_eq_true]
         exact ⟨_,List.mem_map.2 ⟨x,hx,rfl⟩,by rw [qk];rfl⟩
        rw [this] at hnb;cases hnb
       split at ho
       ·rename_i g first cap hfn
        have XF:ev e f= .fn g first cap:=by
         rcases hs.ev f with h1|h1
         ·rw [h1] at hfn;cases hfn
         ·rw [h1,hfn]
        split at ho
        rename_i lH bs s₁ hz
        split at ho
        ·rename_i v₁ s₄ eY
         simp only [Option.some.injEq,Prod.mk.injEq] at ho
         obtain ⟨rfl,rfl,rfl⟩:=ho
         have lv:rS T e s o.op=some (.call g (first++(args.map (ev e')++cap)), { s with wm:=s.n }):=by
          unfold rS
          rw [wL]
          simp only [evalOp,dG,Hr,XF,Xv,hargs]
         obtain ⟨lY,wK⟩:=mz hz
         simp only [] at lY wK
         refine zo hw lv hz rz ((vC _ _ _ _ eY (by omega)).mono fun v s' hvs=> ?_)
         obtain ⟨hvs,IN⟩:=hvs
         cases hvs
         obtain ⟨l1,l2⟩:=least_le bs (min s.wm s₄.wm)
         have An:writes (ev e) o.op (Nat.blt s₄.wm s.n)=(match Nat.blt s₄.wm s.n with
          |true=>none
          |false=>some []):=by
          unfold writes
          cases Nat.blt s₄.wm s.n with
          |false=>rfl
          |true=>rw [wL];simp only [bA,Hr]
         rw [An]
         exact ih h (hs.set (.inr rfl) _) (by simp only [];omega) (by simp only [];omega)
        ·cases ho
       ·cases ho
     ·cases ho
    unfold aj at hv
    split at hv
    ·rename_i hg
     exact wan (ig hg) hv
    ·rename_i g want hg
     split at hv
     ·rename_i b
      have vD:=fun (y:Option V) (w:V) (hy:ay (.bool b) want y=some w)=>fH hs hg hy
      split at hv
      ·rename_i hb
       rcases vD (some (.bool true)) (.bool true) (by simp only [ay,hb]) with ⟨h1,_⟩|⟨_,h2⟩
       ·exact wan h1 hv
       ·cases h2
      ·rename_i hb
       rcases vD (some (.bool true)) (.dQ []) (by simp only [ay,hb]) with ⟨_,h2⟩|⟨h1,_⟩
       ·cases h2
       ·exact Jf h1 hv
     ·rcases fH hs hg (x:=some (.bool true)) (v:= .dQ []) (by simp only [ay]) with ⟨_,h2⟩|⟨h1,_⟩
      ·cases h2
      ·exact Jf h1 hv
     ·cases hv
   ·cases h
end Go.Vm.X
end
noncomputable section
namespace Go.Vm.X
open Go
variable {O:aL} {G:Tr Func} {T:Types} {s s₂:S} {ρ ρ':Operand→V}
theorem Kn.cut {k:Tr V→S→bB} {r:V×S} {nt n0:Nat} {f:F} (L:List Nat) (h:Kn (fun e s=>k (pU L (kQ L e)) s) r nt n0 f):Kn k r nt n0 f:=by
 obtain ⟨e',h1,h2,h3,h4,h5,h6⟩:=h
 exact ⟨_,(pb L e').trans h1,h2,h3,h4,h5,h6⟩
theorem Bb {cf:CF} (vC:uc O G T cf) {nt n n0:Nat} {rl:List Nat} {r:V×S} : ∀ {c:Code} {xs:List (Nat×List Nat)} {out:List Nat} {e':Tr V} {s:S} {kN:Tr V→S→bB} {kE:Nat→Tr V→S→bB} {kR:Tr V→S→bB},
  den cf T nt n rl c xs out e' s kN kE kR=some r→ ∀ {e:Tr V},Sub e' e→s.wm≤s.n→n0≤s.n→C O G T c none ⟨e,nt,s, []⟩ (Kn kN r nt n0) (fun j=>Kn (kE j) r nt n0) (Kn kR r nt n0):=by
 intro c
 induction c with
 |skip=>intro xs out e' s kN kE kR h e hs hw hn;exact Jk ⟨e',hs,rfl,rfl,hw,hn,h⟩
 |label i=>intro xs out e' s kN kE kR h e hs hw hn;exact F2 ⟨e',hs,rfl,rfl,hw,hn,h⟩
 |ret=>intro xs out e' s kN kE kR h e hs hw hn;exact Nn ⟨e',hs,rfl,rfl,hw,hn,h⟩
 |exit i=>intro xs out e' s kN kE kR h e hs hw hn;exact Jj ⟨e',hs,rfl,rfl,hw,hn,h⟩
 |goto i=>intro xs out e' s kN kE kR h;cases h
 |refuse i=>intro xs out e' s kN kE kR h;cases h
 |rangeFunc f ps a b=>intro xs out e' s kN kE kR h;cases h
 |region i ops dr=>
  intro xs out e' s kN kE kR h e hs hw hn
  simp only [den] at h
  split at h
  ·rename_i hd
   refine vJ (um vC (fun uB=> ?_) h (done:= []) rfl hs hw hn (fun _=> .nil))
   subst uB
   have hd:Df ops=true:=hd
   unfold Df at hd
   simp only [Bool.and_eq_true] at hd
   exact hd.1
  ·rename_i hd
   have uB:dr=true:=by
    cases dr with
    |true=>rfl
    |false=>cases hd
   subst uB
   exact vJ (sK vC h hs hw hn)
 |seq a b YD YE=>
  intro xs out e' s kN kE kR h e hs hw hn
  simp only [den] at h
  refine No ((YD h hs hw hn).mono (fun f hf=> ?_) (fun _ _ h=>h) (fun _ h=>h))
  obtain ⟨e₂,h1,h2,h3,h4,h5,h6⟩:=hf
  obtain ⟨ef,ntf,sf,msf⟩:=f
  simp only [] at h1 h2 h3 h4 h5 h6
  subst h2 h3
  exact YE h6 h1 h4 h5
 |scope c ih=>
  intro xs out e' s kN kE kR h e hs hw hn
  simp only [den] at h
  exact F3 (ih h hs hw hn)
 |cond c a b YD YE=>
  intro xs out e' s kN kE kR h e hs hw hn
  simp only [den,join,jn] at h
  unfold ax at h
  have hc: ∀p,ev e' c= .bool p→ev e c= .bool p:=fun p hp=>by
   rcases hs.ev c with h1|h1
   ·rw [h1] at hp;cases hp
   ·rw [h1,hp]
  split at h
  ·rename_i hp
   refine Cq (hc _ hp) (fun _=>(YD h hs hw hn).mono (fun f hf=>hf.cut out) (fun _ _ h=>h) (fun _ h=>h)) (fun hf=>by cases hf)
  ·rename_i hp
   refine Cq (hc _ hp) (fun hf=>by cases hf) (fun _=>(YE h hs hw hn).mono (fun f hf=>hf.cut out) (fun _ _ h=>h) (fun _ h=>h))
  ·cases h
 |block i c ih=>
  intro xs out e' s kN kE kR h e hs hw hn
  simp only [den,join,jn] at h
  refine F1 ((ih h hs hw hn).mono (fun f hf=>hf.cut out) (fun j f hf=> ?_) (fun _ h=>h))
  obtain ⟨e₂,h1,h2,h3,h4,h5,h6⟩:=hf
  constructor
  ·rintro rfl
   have:Nat.beq j j=true:=by simp
   simp only [this] at h6
   exact Kn.cut (k:=kN) out ⟨e₂,h1,h2,h3,h4,h5,h6⟩
  ·intro hj
   have:Nat.beq j i=false:=by
    cases hb:Nat.beq j i with
    |false=>rfl
    |true=>exact absurd (Nat.eq_of_beq_eq_true hb) hj
   simp only [this] at h6
   exact ⟨e₂,h1,h2,h3,h4,h5,h6⟩
 |loop c ih=>
  intro xs out e' s kN kE kR h e hs hw hn
  simp only [den] at h
  generalize kY rl (.loop c) xs out=L at h
  have key: ∀(m:Nat) (vs:List V) (s:S) (e:Tr V),bJ m (fun ih vs s=>den cf T nt n rl c xs L (pU L vs) s (fun e s=>ih (kQ L e) s) kE kR) vs s=some r→Sub (pU L vs) e→s.wm≤s.n→n0≤s.n→
    C O G T (.loop c) none ⟨e,nt,s, []⟩ (Kn kN r nt n0) (fun j=>Kn (kE j) r nt n0) (Kn kR r nt n0):=by
   intro m
   induction m with
   |zero=>intro vs s e h;cases h
   |succ m ihm=>
    intro vs s e h hs hw hn
    have h:den cf T nt n rl c xs L (pU L vs) s (fun e s=>bJ m (fun ih vs s=>den cf T nt n rl c xs L (pU L vs) s (fun e s=>ih (kQ L e) s) kE kR) (kQ L e) s) kE kR=some r:=h
    refine Cr ((ih h hs hw hn).mono (fun f hf=> ?_) (fun _ _ h=>h) (fun _ h=>h))
    obtain ⟨e₂,h1,h2,h3,h4,h5,h6⟩:=hf
    obtain ⟨ef,ntf,sf,msf⟩:=f
    simp only [] at h1 h2 h3 h4 h5 h6
    subst h2 h3
    exact ihm _ _ _ h6 ((pb L e₂).trans h1) h4 h5
  exact key n _ s e h ((pb L e').trans hs) hw hn
theorem sY {o:Option V} {r:List (Option V)} {l:List V} (h:nX (o::r)=some l): ∃v l',o=some v∧v≠ .bad∧nX r=some l'∧l=v::l':=by
 cases o with
 |none=>cases h
 |some v=>
  unfold nX at h
  split at h
  ·cases h
  ·rename_i hb
   split at h
   ·rename_i l' hl
    cases h
    exact ⟨v,l',rfl,hb,hl,rfl⟩
   ·cases h
theorem uY {e' e:Tr V} {nt:Nat} {ms:List Nat} (hs:Sub e' e): ∀ {rs:List ResultVar} {l:List V},nX (yU T e' s rs)=some l→cD T rs ⟨e,nt,s,ms⟩=some l
 | [],l,h=>by simp only [yU,nX] at h;simp only [cD];exact h
 | .tmp t::rs,l,h=>by
  simp only [yU] at h
  obtain ⟨v,l',h1,h2,h3,rfl⟩:=sY h
  cases h1
  unfold cD
  rw [uY hs h3]
  rcases hs t with h1|h1
  ·exact absurd h1 h2
  ·simp only [h1]
 | .cell a t::rs,l,h=>by
  simp only [yU] at h
  obtain ⟨v,l',h1,h2,h3,rfl⟩:=sY h
  cases ht:T.get t with
  |none=>rw [ht] at h1;cases h1
  |some ti=>
   rw [ht] at h1
   simp only [] at h1
   have hv:loadT ti s (ev e' (.tmp a))=some v:=Ew h1
   unfold cD
   simp only [ht]
   rcases hs a with h4|h4
   ·rw [h4] at hv
    unfold loadT at hv
    split at hv<;>simp [rd] at hv
   ·rw [←h4] at hv
    simp only [hv,uY hs h3]
theorem xc (s s₂:S) (v:V) (h:s.n≤s₂.n):s.n≤(packed s s₂ v).2.n:=by
 have hp: ∀ {v:V} {r:V×S},lf s s₂ v=some r→s.n≤r.2.n:=fun {v r} h=>by
  unfold lf at h
  split at h
  ·split at h
   ·cases h;exact Nat.le_refl _
   ·cases h
  ·cases h
 unfold packed
 split
 ·split
  ·rename_i r hr
   unfold pack at hr
   split at hr
   ·split at hr
    ·split at hr
     ·split at hr
      ·cases hr;simp [newObj]
      ·cases hr
     ·cases hr
    ·exact hp hr
    ·cases hr
   ·exact hp hr
  ·exact h
 ·exact h
theorem yg {cf:CF} (vC:uc O G T cf) {n f:Nat} {fn:Func} (hO:O f=none) (hf:G.get f=some fn) {args:List V} {s:S} {r:V×S} (h:sJ cf T n fn args s=some r) (hw:s.wm≤s.n):
  Cl O G T f args s fun v s'=>(v,s')=r∧s.n≤s'.n:=by
 unfold sJ at h
 split at h
 ·cases h
 ·rename_i c hc
  split at h
  ·cases h
  ·rename_i hlen
   have fin: ∀fr,Kn (Hg T fn.results.toList s) r fn.ntmps s.n fr→Ends T fn.results.toList s (fun v s'=>(v,s')=r∧s.n≤s'.n) fr:=by
    rintro ⟨e,nt,s₂,ms⟩ ⟨e',h1,h2,h3,h4,h5,h6⟩
    simp only [] at h1 h2 h3 h4 h5 h6
    subst h3
    unfold Hg aC at h6
    split at h6
    ·rename_i l hl
     have fg:=uY (nt:=nt) (ms:= []) h1 hl
     unfold Ends yI
     simp only [shut,fg]
     simp only [Option.some.injEq] at h6
     exact ⟨h6,xc _ _ _ h5⟩
    ·cases h6
   exact Np hO hf hc rfl rfl hlen ((Bb vC h (Sub.refl _) hw (Nat.le_refl _)).mono fin (fun _ _ h=>by
    obtain ⟨_,_,_,_,_,_,h⟩:=h;cases h) fin)
abbrev Tab:=Tr (CF→Nat→List V→S→bB)
def Ws (Fu:Tab) (n:Nat):Nat→CF:=Nat.rec (motive:=fun _=>CF) (fun _ _ _=>none) fun _ ih f args s=>match Fu.get f with
 |some F=>F ih n args s
 |none=>none
end Go.Vm.X
end
