/-
  A part of the proof of PromiseBytes: lemmas, in short letters, printed by a program out of the longer texts; conditions: those that each lemma names.
-/
import Derived.Laws.Tables
import Derived.Laws.MakeOwn
import Derived.Test.YtalmddmghdinkaaGreatDoorB
set_option linter.all false
set_option linter.deprecated false
noncomputable section
namespace Go.Vm
open Go
variable {ng:Nat} {T:Types} {B:Nat} {ι:bN} {D:Nat→Prop} {s s':St} {w w':World} {P:Program}
theorem Fc {op:BinOp} {k:IntKind} {a b:Int} {v:Value} (hv:nJ op k a b=some v) (t:Nat) (w:World):(Go.binOp op t (.int k a) (.int k b)).run P w= .ok v w:=by
 cases op<;>simp [nJ] at hv<;>
  first
  |(obtain ⟨h0,rfl⟩:=hv;simp [Go.binOp,Op.intDiv,h0];done)
  |(subst hv;simp [Go.binOp,Op.intArith,Op.intCmp,Op.intBits];done)
theorem sU (op:BinOp) (t:Nat) (x y:Operand) (k k':IntKind) (a b:Int) (w:World):(Go.eqGuard op t x y (.int k a) (.int k' b)).run P w= .ok () w:=by
 cases op<;>simp [Go.eqGuard]
theorem oN (hT:lG P T) {t:Nat} {ti:TI} (ht:T.get t=some ti) {x x' y y':Value} (hx:bj ι x x') (hy:bj ι y y') {b:Bool} (hb:sH ti x y=some b) (w:World):
  (∀d,(Op.equalIn (d+1) t x' y').run P w= .ok b w)∧ ∀op a c,(Go.eqGuard op t a c x' y').run P w= .ok () w:=by
 have ok:=hT t ti ht
 unfold sH at hb
 split at hb
 ·rename_i hk
  have hu:=ok.bool hk
  simp at hb;subst hb
  cases hx;cases hy
  exact ⟨fun d=>by simp [Op.equalIn,run_underlying hu],fun op a c=>by cases op<;>simp [Go.eqGuard]⟩
 ·rename_i hk
  have hu:=ok.pointer hk
  simp at hb;subst hb
  cases hx
  cases hy<;>exact ⟨fun d=>by simp [Op.equalIn,run_underlying hu],fun op a c=>by cases op<;>simp [Go.eqGuard]⟩
 ·rename_i hk
  have hu:=ok.pointer hk
  simp at hb;subst hb
  cases hx
  cases hy
  exact ⟨fun d=>by simp [Op.equalIn,run_underlying hu],fun op a c=>by cases op<;>simp [Go.eqGuard]⟩
 ·rename_i hk
  have hu:=ok.slice hk
  simp at hb;subst hb
  cases hx
  cases hy<;>exact ⟨fun d=>by simp [Op.equalIn,run_underlying hu],fun op a c=>by cases op<;>simp [Go.eqGuard]⟩
 ·rename_i hk
  have hu:=ok.slice hk
  simp at hb;subst hb
  cases hy
  cases hx<;>exact ⟨fun d=>by simp [Op.equalIn,run_underlying hu],fun op a c=>by cases op<;>simp [Go.eqGuard]⟩
 ·rename_i hk
  have hu:=ok.map hk
  simp at hb;subst hb
  cases hx
  cases hy<;>exact ⟨fun d=>by simp [Op.equalIn,run_underlying hu],fun op a c=>by cases op<;>simp [Go.eqGuard]⟩
 ·rename_i hk
  have hu:=ok.map hk
  simp at hb;subst hb
  cases hx
  cases hy
  exact ⟨fun d=>by simp [Op.equalIn,run_underlying hu],fun op a c=>by cases op<;>simp [Go.eqGuard]⟩
 ·rename_i hk
  obtain ⟨_,_,_,hu⟩:=ok.func hk
  simp at hb;subst hb
  cases hx
  cases hy
  exact ⟨fun d=>by simp [Op.equalIn,run_underlying hu],fun op a c=>by cases op<;>simp [Go.eqGuard]⟩
 ·rename_i hk
  obtain ⟨_,_,_,hu⟩:=ok.func hk
  simp at hb;subst hb
  cases hx
  cases hy<;>exact ⟨fun d=>by simp [Op.equalIn,run_underlying hu],fun op a c=>by cases op<;>simp [Go.eqGuard]⟩
 ·rename_i hk
  obtain ⟨_,_,_,hu⟩:=ok.func hk
  simp at hb;subst hb
  cases hy
  cases hx<;>exact ⟨fun d=>by simp [Op.equalIn,run_underlying hu],fun op a c=>by cases op<;>simp [Go.eqGuard]⟩
 ·cases hb
theorem oA {ti:TI} {x y:Value} {b:Bool} (h:sH ti x y=some b): ∀k a,x≠ .int k a:=by
 intro k a e
 subst e
 unfold sH at h
 split at h<;>simp_all
theorem LI (hT:lG P T) {op:BinOp} {t:Nat} {x x' y y':Value} (hx:bj ι x x') (hy:bj ι y y') {v:Value} (hb:bin op (T.get t) x y=some v) (ox oy:Operand) (w:World):
  ((do Go.eqGuard op t ox oy x' y';Go.binOp op t x' y':Sem Value).run P w= .ok v w)∧bj ι v v:=by
 unfold bin at hb
 split at hb
 ·rename_i k a k' b
  cases hx;cases hy
  have hg:=sU (P:=P) op t ox oy k k' a b w
  split at hb
  ·unfold pA at hb
   split at hb
   ·cases hb
   ·rename_i h0
    simp at hb;subst hb
    exact ⟨by simp [hg,Go.binOp,Op.shift,h0],.int _ _⟩
  ·unfold pA at hb
   split at hb
   ·cases hb
   ·rename_i h0
    simp at hb;subst hb
    exact ⟨by simp [hg,Go.binOp,Op.shift,h0],.int _ _⟩
  ·split at hb
   ·rename_i e
    subst e
    have:=Fc (P:=P) hb t w
    refine ⟨by simp [hg,this],?_⟩
    cases op<;>simp [nJ] at hb<;>first|(obtain ⟨_,rfl⟩:=hb;constructor;done)|(subst hb;constructor;done)
   ·cases hb
 ·rename_i a b
  cases hx;cases hy
  unfold Ff at hb
  split at hb
  ·simp at hb;subst hb
   exact ⟨by simp [Go.eqGuard,Go.binOp,Op.stringOp],.bool _⟩
  ·simp at hb;subst hb
   exact ⟨by simp [Go.eqGuard,Go.binOp,Op.stringOp],.bool _⟩
  ·cases hb
 ·rename_i hni IN
  split at hb
  ·rename_i ti Yi
   split at hb
   ·rename_i b hq
    simp at hb;subst hb
    obtain ⟨h1,h2⟩:=oN (P:=P) hT Yi hx hy hq w
    refine ⟨?_,.bool _⟩
    have h1:(Op.equal t x' y').run P w= .ok b w:=h1 9999
    have Ku:Go.binOp .eql t x' y'=(do pure (.bool (←Op.equal t x' y'))):=by
     cases hx<;>first
      |(exact absurd rfl (oA hq _ _))
      |(cases hy<;>first|rfl|(exfalso;exact IN _ _ rfl rfl)|(simp [sH] at hq))
    simp [h2,Ku,h1]
   ·cases hb
  ·rename_i ti Yi
   split at hb
   ·rename_i b hq
    simp at hb;subst hb
    obtain ⟨h1,h2⟩:=oN (P:=P) hT Yi hx hy hq w
    refine ⟨?_,.bool _⟩
    have h1:(Op.equal t x' y').run P w= .ok b w:=h1 9999
    have Ku:Go.binOp .neq t x' y'=(do pure (.bool (!(←Op.equal t x' y')))):=by
     cases hx<;>first
      |(exact absurd rfl (oA hq _ _))
      |(cases hy<;>first|rfl|(exfalso;exact IN _ _ rfl rfl)|(simp [sH] at hq))
    simp [h2,Ku,h1]
   ·cases hb
  ·cases hb
theorem Ry {op:UnOp} {x x':Value} (hx:bj ι x x') {v:Value} (hb:un op x=some v) (w:World):(Op.unary op x').run P w= .ok v w∧bj ι v v:=by
 unfold un at hb
 split at hb
 ·cases hx;simp at hb;subst hb
  exact ⟨by simp [Op.unary,Op.intArith],.int _ _⟩
 ·cases hx;simp at hb;subst hb
  exact ⟨by simp [Op.unary,Op.intBits],.int _ _⟩
 ·cases hx;simp at hb;subst hb
  exact ⟨by simp [Op.unary],.bool _⟩
 ·cases hb
theorem kg {k:IntKind} {n:Int} {v:Value} (h:bj ι (.int k n) v):v= .int k n:=by cases h;rfl
theorem rY {kt:Nat} {k:IntKind} {a:Int} (hu:P.underlying kt=some (.int k)): ∀ {es:List (Value×Value)} {ms:List MapEntry},fq ι es ms→ ∀ {q:IntKind} {r:Option Value},
  eQ (.int q a) es=some r→ ∀i,(r=none∧Instr.findNow (.int k) (.int q a) ms i=some none)∨
   ∃v j m,r=some v∧ms[j]? =some m∧m.key= .int q a∧Instr.findNow (.int k) (.int q a) ms i=some (some (i+j,m.val))∧bj ι v m.val∧
    ∀x,fq ι (jv (.int q a) x es) (ms.modify j fun e=> { e with key:= .int q a,val:=m.val })∨True
 | [], [],_,q,r,h,i=>by
  simp [eQ] at h
  subst h
  exact .inl ⟨rfl,rfl⟩
 | [],_::_,h,_,_,_,_=>h.elim
 |(_,_)::_, [],h,_,_,_,_=>h.elim
 |(x,v)::es,m::ms,⟨h1,h2,h3⟩,q,r,h,i=>by
  cases x with
  |int q2 b=>
   have hm:=kg h1
   simp only [eQ] at h
   split at h
   ·rename_i QD
    subst QD
    split at h
    ·rename_i rr
     subst rr
     simp at h
     subst h
     exact .inr ⟨v,0,m,rfl,rfl,hm,by simp [Instr.findNow,hm,Instr.sameNow],h2,fun _=> .inr trivial⟩
    ·rename_i rr
     have hf:(a == b)=false:=by simpa using rr
     rcases rY hu h3 h (i+1) with ⟨rfl,hr⟩|⟨u,j,m',rfl,hj,hk,hr,bZ,_⟩
     ·exact .inl ⟨rfl,by simp [Instr.findNow,hm,Instr.sameNow,hf,hr]⟩
     ·exact .inr ⟨u,j+1,m',rfl,by simpa using hj,hk,by simp [Instr.findNow,hm,Instr.sameNow,hf,hr];omega,bZ,fun _=> .inr trivial⟩
   ·cases h
  |_=>simp [eQ] at h
theorem zK {k:IntKind} {q:IntKind} {a:Int} : ∀ {ms:List MapEntry} {m:MapEntry} {i:Nat},(∀e∈ms,∃b,e.key= .int q b)→(ms.map fun e=>HO e.key).Nodup→m∈ms→m.key= .int q a→ ∃j,Instr.findNow (.int k) (.int q a) ms i=some (some (j,m.val))
 |e::ms,m,i,h,hn,hm,hk=>by
  obtain ⟨b,hb⟩:=h e (List.mem_cons_self ..)
  simp only [List.map_cons,List.nodup_cons] at hn
  by_cases rr:a=b
  ·subst rr
   rcases List.mem_cons.1 hm with rfl|hm
   ·exact ⟨i,by simp [Instr.findNow,Instr.sameNow,hb]⟩
   ·exact absurd (List.mem_map.2 ⟨m,hm,by rw [hk,hb]⟩) hn.1
  ·rcases List.mem_cons.1 hm with rfl|hm
   ·rw [hb] at hk;cases hk;exact absurd rfl rr
   ·obtain ⟨j,hj⟩:=zK (k:=k) (i:=i+1) (fun e he=>h e (List.mem_cons_of_mem _ he)) hn.2 hm hk
    have hf:(a == b)=false:=by simpa using rr
    exact ⟨j,by simp [Instr.findNow,Instr.sameNow,hb,hf,hj]⟩
theorem zL {k:IntKind} {q:IntKind} {a:Int} : ∀ {ms:List MapEntry} {i:Nat},(∀e∈ms,∃b,e.key= .int q b∧b≠a)→Instr.findNow (.int k) (.int q a) ms i=some none
 | [],i,_=>rfl
 |e::ms,i,h=>by
  obtain ⟨b,hb,hne⟩:=h e (List.mem_cons_self ..)
  have hf:(a == b)=false:=by simpa using fun h=>hne h.symm
  simp [Instr.findNow,Instr.sameNow,hb,hf,zL (i:=i+1) fun e he=>h e (List.mem_cons_of_mem _ he)]
theorem tj {q:IntKind} {a:Int} : ∀ {es:List (Value×Value)} {ms:List MapEntry} {r:Option Value},fq ι es ms→eQ (.int q a) es=some r→(r=none→ ∀e∈ms,∃b,e.key= .int q b∧b≠a)
 | [], [],_,_,_=>fun _ e he=>by cases he
 | [],_::_,_,h,_=>h.elim
 |(_,_)::_, [],_,h,_=>h.elim
 |(x,v)::es,m::ms,r,⟨h1,h2,h3⟩,h=>by
  cases x with
  |int q2 b=>
   have hm:=kg h1
   simp only [eQ] at h
   split at h
   ·rename_i QD
    subst QD
    split at h
    ·simp at h
     subst h
     intro h;cases h
    ·rename_i rr
     intro hr e he
     rcases List.mem_cons.1 he with rfl|he
     ·exact ⟨b,hm,fun h=>rr h.symm⟩
     ·exact tj h3 h hr e he
   ·cases h
  |_=>simp [eQ] at h
theorem Bh {q q0:IntKind} {a:Int} {es:List (Value×Value)} {l:List MapEntry} {r:Option Value} (hp:fq ι es l) (h:eQ (.int q a) es=some r) (hq: ∀e∈l,∃b,e.key= .int q0 b): ∀e∈l,∃b,e.key= .int q b:=by
 cases l with
 |nil=>intro e he;cases he
 |cons m ms=>
  cases es with
  |nil=>exact hp.elim
  |cons p es=>
   obtain ⟨x,v⟩:=p
   obtain ⟨h1,_⟩:=hp
   cases x with
   |int q2 b=>
    have hm:=kg h1
    obtain ⟨b',hb⟩:=hq m (List.mem_cons_self ..)
    rw [hm] at hb
    cases hb
    simp only [eQ] at h
    split at h
    ·rename_i e;subst e;exact hq
    ·cases h
   |_=>simp [eQ] at h
theorem BN {k q:IntKind} {a:Int} {kt:Nat} (hu:P.underlying kt=some (.int k)) {own:Bool} {es:List (Value×Value)} {l ms:List MapEntry} (hp:fq ι es l) (hx:Cv own l ms) {r:Option Value}
  (h:eQ (.int q a) es=some r):(r=none∧Instr.findNow (.int k) (.int q a) ms 0=some none)∨ ∃v j m,r=some v∧Instr.findNow (.int k) (.int q a) ms 0=some (some (j,m.val))∧bj ι v (MapEntry.val m):=by
 rcases hx with rfl|⟨_,Aj,hn,q0,hq⟩
 ·rcases rY hu hp h 0 with ⟨rfl,hr⟩|⟨u,j,m,rfl,hj,hkk,hr,bZ,_⟩
  ·exact .inl ⟨rfl,hr⟩
  ·exact .inr ⟨u,_,m,rfl,hr,bZ⟩
 ·have hq:=Bh hp h hq
  rcases rY hu hp h 0 with ⟨rfl,hr⟩|⟨u,j,m,rfl,hj,hkk,hr,bZ,_⟩
  ·exact .inl ⟨rfl,zL fun e he=>tj hp h rfl e (Aj.mem_iff.2 he)⟩
  ·obtain ⟨j,hj⟩:=zK (k:=k) (i:=0) (fun e he=>hq e (Aj.mem_iff.2 he)) ((Aj.map _).nodup_iff.1 hn) (Aj.mem_iff.1 (List.mem_of_getElem? hj)) hkk
   exact .inr ⟨u,j,m,rfl,hj,bZ⟩
theorem BI (hT:lG P T) (h:gW ng T ι D B s w) {t:Nat} {x x' ix IZ:Value} (hx:bj ι x x') (mM:bj ι ix IZ) (hd: ∀r,x= .map (some r)→D r) {ok:Bool} {v:Value}
  (hl:fV T t s x ix ok=some v): ∃v',(Instr.lookup t x' IZ ok).run P w= .ok v' w∧bj ι v v':=by
 unfold fV at hl
 split at hl
 ·rename_i kt vt _ _ _ ht
  split at hl
  ·rename_i k _ _ _ tv hk hv
   have Rx:=(hT t _ ht).map rfl
   have EI:=(hT kt _ hk).int rfl
   have UF:=hT vt _ hv
   split at hl
   ·rename_i es q a uD
    split at hl
    ·rename_i f hf
     simp at hl
     subst hl
     have HA:=kg mM
     subst HA
     have Hs: ∀e d,(Instr.checkKey e (d+1) kt (.int q a)).run P w= .ok () w:=fun e d=>by simp [Instr.checkKey,run_underlying EI]
     have Hs:=fun e=>Hs e 9999
     have wF: ∀(ms:Array MapEntry) r,Instr.findNow (.int k) (.int q a) ms.toList 0=some r→(Instr.findKey kt (.int q a) ms.toList).run P w= .ok r w:=fun ms r hr=>by
      simp [Instr.findKey,run_underlying EI,hr]
     have key: ∃(ms:Array MapEntry) (l:List MapEntry) (own:Bool),fq ι es l∧Cv own l ms.toList∧ ∀(r:Option (Nat×Value)) (v':Value),Instr.findNow (.int k) (.int q a) ms.toList 0=some r→
       ((match r with
        |some (_,v)=>do
         let x ←pure (v,true)
         pure (if ok=true then Value.tuple #[x.1,.bool x.2] else x.1)
        |none=>do
         let z ←zeroValue vt
         let x ←pure (z,false)
         pure (if ok=true then Value.tuple #[x.1,.bool x.2] else x.1):Sem Value).run P w= .ok v' w)→(Instr.lookup t x' (.int q a) ok).run P w= .ok v' w:=by
      cases hx<;>simp [rI] at uD
      ·subst uD
       refine ⟨#[], [],true,trivial,.inl rfl,fun r v' hr ji=> ?_⟩
       simp only [Instr.lookup,Sem.run_bind,run_underlying Rx,Result.andThen_ok,Sem.run_pure,Hs,wF _ r hr]
       exact ji
      ·rename_i b i hi
       split at uD
       ·rename_i es' own hb
        simp at uD
        subst uD
        obtain ⟨ms,clock,D6,l,hp,hx⟩:=(h.obj b _ i (hd b rfl) hb hi).there
        refine ⟨ms,l,_,hp,hx,fun r v' hr ji=> ?_⟩
        have hg:(getObj i.r).run P w= .ok (.map ms clock) w:=by simp [getObj,Sem.run,D6]
        simp only [Instr.lookup,Sem.run_bind,run_underlying Rx,Result.andThen_ok,Sem.run_pure,hg,Hs,wF _ r hr]
        exact ji
       ·cases uD
     obtain ⟨ms,l,own,hp,hx,key⟩:=key
     rcases BN EI hp hx hf with ⟨rfl,hr⟩|⟨u,j,m,rfl,hr,bZ⟩
     ·cases ok with
      |true=>exact ⟨.tuple #[tv.zero,.bool false],key none _ hr (by simp [UF.kf]),.tuple _ _ (.cons _ _ _ _ (.fW UF.zero) (.cons _ _ _ _ (.bool _) .nil))⟩
      |false=>exact ⟨tv.zero,key none _ hr (by simp [UF.kf]),.fW UF.zero⟩
     ·cases ok with
      |true=>exact ⟨.tuple #[m.val,.bool true],key _ _ hr (by simp),.tuple _ _ (.cons _ _ _ _ bZ (.cons _ _ _ _ (.bool _) .nil))⟩
      |false=>exact ⟨m.val,key _ _ hr (by simp),bZ⟩
    ·cases hl
   ·cases hl
  ·cases hl
 ·cases hl
end Go.Vm
end
noncomputable section
namespace Go.Vm
open Go
variable {ng:Nat} {T:Types} {B:Nat} {ι:bN} {D:Nat→Prop} {s s':St} {w w':World} {P:Program}
theorem tN {q:IntKind} {a:Int} {x x':Value} (hx:bj ι x x'): ∀ {es:List (Value×Value)} {ms:List MapEntry},fq ι es ms→ ∀ {r:Option Value},
  eQ (.int q a) es=some r→ ∀ {k:IntKind} (i:Nat),
   (r=none∧Instr.findNow (.int k) (.int q a) ms i=some none∧ ∀m:MapEntry,m.key= .int q a→m.val=x'→fq ι (jv (.int q a) x es) (ms++ [m]))∨
   (r≠none∧ ∃j m,ms[j]? =some m∧m.key= .int q a∧Instr.findNow (.int k) (.int q a) ms i=some (some (i+j,m.val))∧
    fq ι (jv (.int q a) x es) (ms.modify j fun e=> { e with key:= .int q a,val:=x' }))
 | [], [],_,r,h,k,i=>by
  simp [eQ] at h
  subst h
  exact .inl ⟨rfl,rfl,fun m hk hv=>⟨by rw [hk];exact .int _ _,by rw [hv];exact hx,trivial⟩⟩
 | [],_::_,h,_,_,_,_=>h.elim
 |(_,_)::_, [],h,_,_,_,_=>h.elim
 |(y,v)::es,m::ms,⟨h1,h2,h3⟩,r,h,k,i=>by
  cases y with
  |int q2 b=>
   have hm:=kg h1
   simp only [eQ] at h
   split at h
   ·rename_i QD
    subst QD
    split at h
    ·rename_i rr
     subst rr
     simp at h
     subst h
     refine .inr ⟨by simp,0,m,rfl,hm,by simp [Instr.findNow,hm,Instr.sameNow],?_⟩
     simp only [jv,if_true]
     exact ⟨.int _ _,hx,h3⟩
    ·rename_i rr
     have hf:(a == b)=false:=by simpa using rr
     have hput:jv (.int q a) x ((.int q b,v)::es)=(.int q b,v)::jv (.int q a) x es:=by simp [jv,rr]
     rcases tN hx h3 h (k:=k) (i+1) with ⟨rfl,hr,hp⟩|⟨FU,j,m',hj,hk,hr,hp⟩
     ·refine .inl ⟨rfl,by simp [Instr.findNow,hm,Instr.sameNow,hf,hr],fun m' uz yw=> ?_⟩
      rw [hput]
      exact ⟨h1,h2,hp m' uz yw⟩
     ·refine .inr ⟨FU,j+1,m',by simpa using hj,hk,by simp [Instr.findNow,hm,Instr.sameNow,hf,hr];omega,?_⟩
      rw [hput]
      exact ⟨h1,h2,hp⟩
   ·cases h
  |_=>simp [eQ] at h
theorem kJ (w:World) (r:Nat) (o:Obj):(w.putObj r o).heap.size=w.heap.size:=by simp [World.putObj]
theorem BJ (hT:lG P T) (h:gW ng T ι D B s w) {t:Nat} {m m' k k' v v':Value} (hm:bj ι m m') (hk:bj ι k k') (hv:bj ι v v') (hd: ∀r,m= .map (some r)→D r)
  (hl:fj T t s m k v=some s'): ∃w',(Instr.mapUpdate t m' k' v').run P w= .ok () w'∧bH ng T B ι D s w ι s' w':=by
 unfold fj at hl
 split at hl
 ·rename_i kt vt _ _ _ ht
  split at hl
  ·rename_i kk _ _ _ b q a hkt
   have Rx:=(hT t _ ht).map rfl
   have EI:=(hT kt _ hkt).int rfl
   split at hl
   ·rename_i es hb
    split at hl
    ·rename_i r hf
     simp at hl
     subst hl
     have hk':=kg hk
     subst hk'
     cases hm with
     |map _ i hi=>
      have ho:=h.obj b _ i (hd b rfl) hb hi
      obtain ⟨ms,clock,D6,l,hp,hx⟩:=ho.there
      have hx:l=ms.toList:=hx.resolve_right fun h=>by cases h.1
      subst hx
      have Hs: ∀e d,(Instr.checkKey e (d+1) kt (.int q a)).run P w= .ok () w:=fun e d=>by simp [Instr.checkKey,run_underlying EI]
      have Hs:=fun e=>Hs e 9999
      have wF: ∀r,Instr.findNow (.int kk) (.int q a) ms.toList 0=some r→(Instr.findKey kt (.int q a) ms.toList).run P w= .ok r w:=fun r hr=>by
       simp [Instr.findKey,run_underlying EI,hr]
      have hg:(getObj i.r).run P w= .ok (.map ms clock) w:=by simp [getObj,Sem.run,D6]
      have jD: ∀o,(setObj i.r o).run P w= .ok () (w.putObj i.r o):=fun o=>by simp [setObj,Sem.run,D6,World.putObj]
      have hlt:i.r<w.heap.size:=(Array.getElem?_eq_some_iff.1 D6).1
      have fin: ∀(uP:Array MapEntry) (c:Nat),fq ι (jv (.int q a) v es) uP.toList→
        bH ng T B ι D s w ι { s with h:=s.h.set b (.map (jv (.int q a) v es) true),wm:=min s.wm b } (w.putObj i.r (.map uP c)):=fun uP c hp'=>
       bH.write h (hd b rfl) hb hi rfl (.inl rfl) (kJ _ _ _) (fun r hr=>World.putObj_heap_other hr)
        ⟨⟨uP,c,World.putObj_heap_same hlt,_,hp',.inl rfl⟩,ho.mine,ho.Ce⟩
      rcases tN hv hp hf (k:=kk) 0 with ⟨rfl,hr,Lb⟩|⟨FU,j,m,hj,hkk,hr,Lb⟩
      ·refine ⟨_,?_,fin (ms.push { key:= .int q a,val:=v',born:=clock }) (clock+1) (by simpa using Lb _ rfl rfl)⟩
       simp only [Instr.mapUpdate,Sem.run_bind,run_underlying Rx,Result.andThen_ok,hg,Hs,wF _ hr,jD]
      ·have sM:ms[j]? =some m:=by simpa using hj
       have hkey:(Instr.keyThatStays (((ms[0+j]?).map (·.key)).getD (.int q a)) (.int q a)).run P w= .ok (.int q a) w:=by
        rw [Nat.zero_add,sM]
        have QL: ∀d,Instr.sameBits d (.int q a) (.int q a)=true:=fun d=>by cases d<;>simp [Instr.sameBits]
        simp [Instr.keyThatStays,hkk,QL]
       refine ⟨_,?_,fin (ms.modify (0+j) fun e=> { e with key:= .int q a,val:=v' }) clock (by rw [Nat.zero_add,Array.toList_modify];exact Lb)⟩
       simp only [Instr.mapUpdate,Sem.run_bind,run_underlying Rx,Result.andThen_ok,hg,Hs,wF _ hr,jD,hkey]
    ·cases hl
   ·cases hl
  ·cases hl
 ·cases hl
theorem yQ (h:gW ng T ι D B s w) (t:Nat): ∃ι' v' w',(Instr.makeMap t none).run P w= .ok v' w'∧bj ι' (.map (some s.n)) v'∧bH ng T B ι D s w ι' (newObj s (.map [] true)) w':=by
 refine ⟨ι.add s.n ⟨w.heap.size,0,0⟩,.map (some w.heap.size),w.alloc (.map #[] 0),by simp [Instr.makeMap],.map s.n _ (bN.add_same _ _ _),?_⟩
 refine bH.new h _ (.map #[] 0) 0 rfl ⟨⟨#[],0,?_, [],trivial,.inl rfl⟩,fun _=>h.base,fun hf=>by simp at hf⟩
 show (w.heap.push (.map #[] 0))[w.heap.size]? =_
 simp
theorem tn (off:Nat): ∀(l:List Value) (k:Nat) (cells:Array Value),off+k+l.length≤cells.size→
  ((l.zipIdx k).foldl (fun cs x=>cs.setIfInBounds (off+x.2) x.1) cells).toList=cells.toList.take (off+k)++(l++cells.toList.drop (off+k+l.length))
 | [],k,cells,h=>by simp
 |v::r,k,cells,h=>by
  simp only [List.zipIdx_cons,List.foldl_cons]
  simp only [List.length_cons] at h
  rw [tn off r (k+1) _ (by simp;omega)]
  have hlen:off+k<cells.toList.length:=by simp;omega
  have e1:(cells.setIfInBounds (off+k) v).toList=cells.toList.set (off+k) v:=by simp
  rw [e1,show off+(k+1)=off+k+1 by omega,List.drop_set_of_lt (by omega),List.take_set,List.set_eq_take_append_cons_drop]
  simp
  rw [if_pos (by omega)]
  simp
  rw [List.take_take,show min (off+k) (off+k+1)=off+k by omega]
  have:List.drop (off+k+1) (List.take (off+k+1) cells.toList)= []:=by simp
  simp
  rw [show off+k+1+r.length=off+k+(r.length+1) by omega]
def lF (ι:bN):List (Nat×Value)→List (Nat×Value)→Prop
 | [], []=>True
 |(i,v)::l,(j,v')::l'=>i=j∧bj ι v v'∧lF ι l l'
 |_,_=>False
theorem oG {place place':Nat→Option (Nat×Nat)} (Bw: ∀i x,place i=some x→place' i=some x): ∀ {parts parts':List (Nat×Value)} {cs r:List Value} {cells:Array Value},
  lF ι parts parts'→bg ι cs cells.toList→fG place cs parts=some r→ ∃r':Array Value,Instr.fill place' cells parts'=some r'∧bg ι r r'.toList
 | [], [],cs,r,cells,_,hc,h=>by
  simp [fG] at h;subst h
  exact ⟨cells,rfl,hc⟩
 | [],_::_,_,_,_,h,_,_=>h.elim
 |(_,_)::_, [],_,_,_,h,_,_=>h.elim
 |(i,v)::ps,(j,v')::ps',cs,r,cells,⟨hij,hv,hps⟩,hc,h=>by
  subst hij
  unfold fG at h
  cases hp:place i with
  |none=>simp [hp] at h
  |some x=>
   obtain ⟨off,size⟩:=x
   simp only [hp] at h
   split at h
   ·rename_i jh
    rw [Bool.and_eq_true,Nat.ble_eq] at jh
    obtain ⟨h1,h2⟩:=jh
    have h1:=Nat.eq_of_beq_eq_true h1
    have pX:=hv.bc.length
    have uF:=hc.length
    simp only [Array.length_toList] at pX uF
    have DU:=tn off v'.cells.toList 0 cells (by rw [Array.length_toList];omega)
    have hs:bg ι (bY cs off (bc v)) (v'.cells.toList.zipIdx.foldl (fun cs x=>cs.setIfInBounds (off+x.2) x.1) cells).toList:=by
     rw [DU]
     have:=hc.bY hv.bc off
     unfold bY at this ⊢
     simpa using this
    obtain ⟨r',Al,bZ⟩:=oG Bw hps hs h
    refine ⟨r',?_,bZ⟩
    have c1: ¬(v'.cells.size≠size∨off+v'.cells.size>cells.size):=by omega
    have c2:(decide (v'.cells.size≠size) || decide (off+v'.cells.size>cells.size))=false:=by simp;omega
    unfold Instr.fill
    rw [Bw i _ hp]
    simp only [c2,Bool.false_eq_true,if_false]
    rw [←Al]
    congr 1
    rw [←Array.foldl_toList]
    simp
   ·cases h
end Go.Vm
end
noncomputable section
namespace Go.Vm
open Go
variable {ng:Nat} {T:Types} {B:Nat} {ι:bN} {D:Nat→Prop} {s s':St} {w w':World} {P:Program}
theorem tQ (w:World): ∀(fs:List Field),(∀f∈fs,(P.info? f.type).isSome=true)→ ∃places:List (Nat×Nat),(fs.mapM fun f=>Prod.mk f.offset<$>sizeOf f.type).run P w= .ok places w∧
  ∀(i:Nat) (f:Field),fs[i]? =some f→ ∃n,places[i]? =some (f.offset,n)∧ ∀t,P.info? f.type=some t→n=t.size
 | [],_=>⟨[],by simp,by simp⟩
 |f::fs,h=>by
  obtain ⟨ps,h1,h2⟩:=tQ w fs (fun g hg=>h g (by simp [hg]))
  obtain ⟨t,ht⟩:=Option.isSome_iff_exists.1 (h f (by simp))
  have hs:(sizeOf f.type).run P w= .ok t.size w:=by simp [sizeOf,typeInfo,ht]
  refine ⟨(f.offset,t.size)::ps,by simp [List.mapM_cons,hs,h1],fun i g hg=> ?_⟩
  cases i with
  |zero=>
   simp at hg;subst hg
   exact ⟨t.size,rfl,fun u hu=>by rw [ht] at hu;cases hu;rfl⟩
  |succ i=>simpa using h2 i g (by simpa using hg)
theorem EL (hT:lG P T) {t:Nat} {ps:List (Nat×Value)} {ps':Array (Nat×Value)} (hp:lF ι ps ps'.toList) {v:Value} (hl:iI T t ps=some v) (w:World):
  ∃v',(Instr.build t ps').run P w= .ok v' w∧bj ι v v':=by
 unfold iI at hl
 split at hl
 ·rename_i fs _ _ z ht
  have ok:=hT t _ ht
  obtain ⟨fields,hu,M0⟩:=ok.struct rfl
  split at hl
  ·rename_i l hf
   simp at hl;subst hl
   obtain ⟨places,Bw,X4⟩:=tQ (P:=P) w fields.toList (fun f hf=>by
    have:=ok.parts _ rfl (f.type,f.offset) (by rw [M0];exact List.mem_map.2 ⟨f,hf,rfl⟩)
    exact this)
   have hz:=(bj.fW (ι:=ι) ok.zero).bc
   obtain ⟨r,hr,bZ⟩:=oG (place':=(places.toArray[·]?)) (fun i x hx=>by
    split at hx
    ·rename_i ft off rest hd
     split at hx
     ·rename_i ti BB
      simp at hx;subst hx
      obtain ⟨F,hF,rfl,rfl⟩:=kO M0 hd
      obtain ⟨n,hn,hn'⟩:=X4 i F (by simpa using hF)
      obtain ⟨it,hit,hs,_⟩:=(hT _ _ BB).info
      simp [hn,hn' it hit,hs]
     ·cases hx
    ·cases hx) hp hz hf
   refine ⟨.agg r,?_,?_⟩
   ·have X5:(fields.mapM (fun f=>Prod.mk f.offset<$>sizeOf f.type)).run P w= .ok places.toArray w:=by
     rw [Array.mapM_eq_mapM_toList]
     simp [Bw]
    have HF:=hr
    simp at HF
    simp [Instr.build,ok.kf,run_underlying hu,X5,HF]
   ·have:=bj.agg (ι:=ι) _ _ bZ
    simpa using this
  ·cases hl
 ·rename_i n e _ _ z ht
  have ok:=hT t _ ht
  have hu:=ok.array rfl
  split at hl
  ·rename_i te ej
   have jY:=hT e _ ej
   split at hl
   ·rename_i l hf
    simp at hl;subst hl
    have hz:=(bj.fW (ι:=ι) ok.zero).bc
    obtain ⟨r,hr,bZ⟩:=oG (fun i x hx=>hx) hp hz hf
    refine ⟨.agg r,?_,?_⟩
    ·simp [Instr.build,ok.kf,run_underlying hu,jY.run_sizeOf,hr]
    ·have:=bj.agg (ι:=ι) _ _ bZ
     simpa using this
   ·cases hl
  ·cases hl
 ·cases hl
theorem p6 (z:List Value): ∀n,(bz n z).length=n*z.length
 |0=>by simp [bz]
 |n+1=>by simp [bz,p6 z n,Nat.succ_mul,Nat.add_comm]
theorem xm (z:List Value): ∀n j,j<n*z.length→(bz n z)[j]? =z[j % z.length]?
 |0,j,h=>by simp at h
 |n+1,j,h=>by
  simp only [bz]
  by_cases hj:j<z.length
  ·rw [List.getElem?_append_left hj,Nat.mod_eq_of_lt hj]
  ·have hge:z.length≤j:=by omega
   rw [List.getElem?_append_right hge,xm z n _ (by rw [Nat.succ_mul] at h;omega)]
   congr 1
   exact (Nat.mod_eq_sub_mod hge).symm
theorem pE (z:Value) (n:Nat):(madeCells z.cells (n*z.cells.size)).toList=bz n z.cells.toList:=by
 apply List.ext_getElem?
 intro j
 by_cases hj:j<n*z.cells.size
 ·rw [xm _ _ _ (by simpa using hj)]
  have hpos:0<z.cells.size:=by
   rcases Nat.eq_zero_or_pos z.cells.size with e|e
   ·rw [e] at hj;simp at hj
   ·exact e
  have hlt:j % z.cells.size<z.cells.size:=Nat.mod_lt _ hpos
  simp [madeCells,hj,hlt]
 ·rw [List.getElem?_eq_none (by simp [madeCells];omega),List.getElem?_eq_none (by rw [p6];simp;omega)]
theorem il (v:Value):bc v=v.cells.toList:=by cases v<;>rfl
theorem vM {p:Value→Bool} {z:List Value} (h:z.all p=true): ∀n,(bz n z).all p=true
 |0=>rfl
 |n+1=>by simp only [bz,List.all_append,h,vM h n,Bool.and_self]
theorem uW {v:Value} (h:iM v=true):(bc v).all plain=true:=by
 unfold iM at h
 split at h
 ·exact h
 ·rename_i hn
  cases v<;>first|(exfalso;exact hn _ rfl)|(simpa [bc] using h)
theorem bg.FF {v:Value} (h:iM v=true) (n:Nat):bg ι (bz n (bc v)) (bz n (bc v)):= .jX (vM (uW h) n)
theorem bg.toArray_eq {l:List Value} {a:Array Value} (h:a.toList=l):a=(l++ []).toArray:=by
 apply Array.ext';simp [h]
theorem uV (hT:lG P T) (h:gW ng T ι D B s w) {t:Nat} {l l' c c':Value} (hl:bj ι l l') (hc:bj ι c c') {v:Value} (hr:bQ T t l c s=some (v,s')):
  ∃ι' v' w',(Instr.makeSlice t l' c').run P w= .ok v' w'∧bj ι' v v'∧bH ng T B ι D s w ι' s' w':=by
 unfold bQ at hr
 split at hr
 ·rename_i e _ _ _ n m ht
  split at hr
  ·rename_i te ej
   split at hr
   ·rename_i jh
    obtain ⟨h1,h2,h3,h4⟩:=jh
    simp at hr
    obtain ⟨rfl,rfl⟩:=hr
    cases hl;cases hc
    have jY:=hT e _ ej
    obtain ⟨i,hi,hs,hby,hz⟩:=jY.info
    have hrun:=run_make (P:=P) w t e i te.zero ((hT t _ ht).slice rfl) hi hz .i64 .i64 n m h1 h2 (by rw [hby];omega) (by omega)
    have hsz:i.size=te.zero.cells.size:=by rw [hs,←jY.Ia,il];simp
    have hcells:(madeCells te.zero.cells (m.toNat*i.size)).toList=bz m.toNat (bc te.zero):=by rw [hsz,pE,il]
    have hg:=bH.cells (s:=s) (e:=e) (more:= []) h false 0 (w':=w.alloc (.cells (madeCells te.zero.cells (m.toNat*i.size)) e)) (by
     show w.heap.push _=_
     rw [bg.toArray_eq hcells]) (bg.FF (ι:=ι) jY.zero m.toNat) (by simp) (fun _=>rfl)
    exact ⟨_,_,_,hrun,.slice s.n 0 _ _ _ _ (bN.add_same _ _ _) (Nat.le_refl _) (by omega),hg⟩
   ·cases hr
  ·cases hr
 ·cases hr
theorem sS (hT:lG P T) (h:gW ng T ι D B s w) {t len:Nat} {ps:List (Nat×Value)} {ps':Array (Nat×Value)} (hp:lF ι ps ps'.toList) {v:Value} (hr:cI T t len ps s=some (v,s')):
  ∃ι' v' w',(Instr.buildSlice t len ps').run P w= .ok v' w'∧bj ι' v v'∧bH ng T B ι D s w ι' s' w':=by
 unfold cI at hr
 split at hr
 ·rename_i e _ _ _ ht
  split at hr
  ·rename_i te ej
   split at hr
   ·rename_i hle
    rw [Nat.ble_eq] at hle
    split at hr
    ·rename_i l hf
     simp at hr
     obtain ⟨rfl,rfl⟩:=hr
     have jY:=hT e _ ej
     have hu:=(hT t _ ht).slice rfl
     have hsz:te.size=te.zero.cells.size:=by rw [←jY.Ia,il];simp
     have hcells:(madeCells te.zero.cells (len*te.size)).toList=bz len (bc te.zero):=by rw [hsz,pE,il]
     obtain ⟨r,hr,bZ⟩:=oG (ι:=ι) (cells:=madeCells te.zero.cells (len*te.size)) (fun i x hx=>hx) hp (by rw [hcells];exact bg.FF jY.zero len) hf
     have hg:=bH.cells (s:=s) (e:=e) (more:= []) h false 0 (w':=w.alloc (.cells r e)) (by
      show w.heap.push _=_
      simp) bZ (by simp) (fun _=>rfl)
     refine ⟨_,.slice (some ⟨w.heap.size,0,none⟩) len len,_,?_,.slice s.n 0 _ _ _ _ (bN.add_same _ _ _) (Nat.le_refl _) (by omega),hg⟩
     have hno: ¬(2 ^ 24<len*te.size):=by omega
     by_cases h0:len*te.size=0
     ·have hm:madeCells te.zero.cells (len*te.size)= #[]:=by rw [h0];simp [madeCells]
      rw [hm] at hr
      have e0:Array.range 0= #[]:=rfl
      simp [Instr.buildSlice,run_underlying hu,jY.run_sizeOf,h0,e0,hr,newRow]
     ·unfold madeCells at hr
      simp at hno
      simp [Instr.buildSlice,run_underlying hu,jY.run_sizeOf,jY.kf,h0,hno,hr,newRow]
    ·cases hr
   ·cases hr
  ·cases hr
 ·cases hr
end Go.Vm
end
noncomputable section
namespace Go.Vm
open Go
variable {ng:Nat} {T:Types} {B:Nat} {ι:bN} {D:Nat→Prop} {s s':St} {w w':World} {P:Program}
theorem bH.kill (h:gW ng T ι D B s w) (b:Nat):bH ng T B ι D s w ι { s with h:=s.h.set b .dead,wm:=min s.wm b } w:=by
 have cases: ∀c q j,(D c∨s.n≤c)→(s.h.set b .dead).get c=some q→ι c=some j→D c∧(q= .dead∨s.h.get c=some q):=by
  intro c q j iU hc hj
  have:=h.lt c j hj
  refine ⟨iU.resolve_right (by omega),?_⟩
  by_cases e:c=b
  ·subst e
   rw [Tr.aQ] at hc
   exact .inl (Option.some.inj hc).symm
  ·rw [Tr.aK _ _ e] at hc
   exact .inr hc
 refine ⟨bN.le_refl _,fun c j hj=> .inl hj,⟨fun c q j iU hc hj=> ?_,fun c c' q q' j j' iU wE hc xR hq rB hj sM e=> ?_,fun c j hj=>h.lt c j hj,h.base⟩,Nat.le_refl _,by simp;omega,fun c hc hm=> ?_,fun r hr hno=>rfl,fun c j q iU hj hc hq=> ?_,Nat.le_refl _,rfl,rfl⟩
 ·rcases cases c q j iU hc hj with ⟨hd,rfl|hc⟩
  ·trivial
  ·exact h.obj c q j hd hc hj
 ·rcases cases c q j iU hc hj with ⟨hd,rfl|kc⟩
  ·simp [live] at hq
  rcases cases c' q' j' wE xR sM with ⟨gj,rfl|Lv⟩
  ·simp [live] at rB
  exact h.inj c c' q q' j j' hd gj kc Lv hq rB hj sM e
 ·have:c≠b:=by intro e;subst e;simp at hm;omega
  simp only [];rw [Tr.aK _ _ this]
 ·rcases cases c q j iU hc hj with ⟨hd,rfl|kc⟩
  ·simp [live] at hq
  ·exact .inr ⟨c,j,q,hd,hj,kc,hq,rfl,.inl rfl⟩
theorem tg (w:World) (a:Addr):w.drew.cell? a=w.cell? a:=rfl
theorem rQ (s:ByteArray):ofBytes s.data.toList=byteCells s:=rfl
theorem bg.bytes (l:List UInt8):bg ι (ofBytes l) (ofBytes l):=by
 unfold ofBytes
 induction l with
 |nil=>exact .nil
 |cons b l ih=>exact .cons _ _ _ _ (.int _ _) ih
theorem bg.Zh {l l':List Value} (h:bg ι l l') (hs:l.all scalar=true): ∀u∈l',u.oneCell'=true:=fun v hv=>by
 obtain ⟨j,hj⟩:=List.getElem?_of_mem hv
 have sM:j<l.length:=by rw [h.length];exact (List.getElem?_eq_some_iff.1 hj).1
 obtain ⟨v',ji,bZ⟩:=h.get (List.getElem?_eq_getElem sM)
 rw [hj] at ji
 cases ji
 exact bZ.scalar (List.all_eq_true.1 hs _ (List.getElem_mem sM))
theorem BM (h:gW ng T ι D B s w) {te:TI} {y y':Value} (hD: ∀b i,b∈bC y→ι b=some i→D b) (hy:bj ι y y') {n:Nat} {l:List Value} (hi:items te s y=some (n,l)) {u:Nat}
  (hu:(∃e',P.underlying u=some (.slice e'))∨P.underlying u=some .string) (hst: ∀st,y= .string st→P.underlying u=some .string) (uI: ∀a b c,y= .slice a b c→ ∃e',P.underlying u=some (.slice e')):
  l.length=n*te.size∧ ∃news,bg ι l news∧(l.all scalar=true→Src P te.size u y' n news w):=by
 unfold items at hi
 split at hi
 ·simp at hi
  obtain ⟨rfl,rfl⟩:=hi
  obtain ⟨e',he⟩:=uI _ _ _ rfl
  cases hy
  exact ⟨by simp, [],.nil,fun _=>Src.ofNil w he _⟩
 ·rename_i a n' c
  split at hi
  ·rename_i l' hr
   simp at hi
   obtain ⟨rfl,rfl⟩:=hi
   obtain ⟨e',he⟩:=uI _ _ _ rfl
   cases hy with
   |slice b o l c c' i hi' h1 h2=>
    obtain ⟨hlen,news,bZ,hc⟩:=h.read hr (hD _ _ (by simp [bC]) hi') hi'
    exact ⟨hlen,news,bZ,fun hs=>Src.ofSlice w he _ _ _ news (by rw [←bZ.length];exact hlen) (fun j u hu=>by rw [gm];exact hc j u hu) (bZ.Zh hs)⟩
   |eA a a' ie FT=>
    have:l'= []:=by
     unfold cW at hr
     split at hr
     ·split at hr
      ·simp at hr;exact hr
      ·cases hr
     ·cases hr
    subst this
    exact ⟨by simp, [],.nil,fun _=>Src.ofSlice w he a' 0 0 [] (by simp) (by simp) (by simp)⟩
  ·cases hi
 ·rename_i st
  split at hi
  ·rename_i h1
   have h1:=Nat.eq_of_beq_eq_true h1
   simp at hi
   obtain ⟨rfl,rfl⟩:=hi
   cases hy
   refine ⟨by rw [h1,rQ,byteCells_length,Nat.mul_one],byteCells st,.bytes _,fun _=> ?_⟩
   rw [h1]
   exact Src.ofString w (hst _ rfl) st
  ·cases hi
 ·cases hi
theorem lW (hT:lG P T) (h:gW ng T ι D B s w) {t u ty e:Nat} {te:TI} (ht:P.underlying t=some (.slice e)) (ej:T.get e=some te) {base:Option Addr} {len cap' n:Nat} {olds kZ l news:List Value} {y':Value}
  (hold:(Builtin.firstCells te.size len (.slice base len cap')).run P w.drew= .ok kZ.toArray w.drew) (ho:bg ι olds kZ) (hl:bg ι l news) (hs:Src P te.size u y' n news w)
  (hg:cap'<len+n) (hfit:(len+n)*te.bytes≤140737488355328) (hpos:0<te.bytes):
  ∃ι' v' w',(Builtin.append_ #[t,u] ty #[.slice base len cap',y']).run P w= .ok v' w'∧bj ι' (.slice (some ⟨s.n,0,none⟩) (len+n) (len+n)) v'∧
   bH ng T B ι D s w ι' (newObj s (.cells (olds++l) e true true)) w':=by
 have jY:=hT e te ej
 obtain ⟨i,hi,hsz,hby,hz⟩:=jY.info
 have h63:((len+n:Nat):Int)≤9223372036854775807:=by
  have:len+n≤(len+n)*te.bytes:=Nat.le_mul_of_pos_right _ hpos
  omega
 have hrun:=run_append_grow_src (P:=P) w t u ty e i te.zero ht hi hz base len cap' kZ (by rw [hsz];exact hold) y' n news (by rw [hsz];exact hs) hg h63 (growslice_fits hg (by rw [hby];exact hfit))
 have Ci:te.size=te.zero.cells.size:=by rw [←jY.Ia,il];simp
 have hcap:=grownCap_ge w (len+n) cap' e
 have kV:=bH.cells (s:=s) (e:=e) (cs:=olds++l) (cs':=kZ++news) (more:=(Builtin.zeroCells te.zero.cells (grownCap w (len+n) cap' e - (len+n))).toList) h true (grownCap w (len+n) cap' e - (len+n))
  (w':=w.drew.alloc (.cells ((kZ++news).toArray++Builtin.zeroCells te.zero.cells (grownCap w (len+n) cap' e - (len+n))) e)) (by
   show w.heap.push _=_
   congr 2
   apply Array.ext'
   simp) (ho.append hl) (by rw [Array.length_toList,size_zeroCells,qL ej,Ci];exact Nat.le_refl _) (fun hf=>by simp at hf)
 exact ⟨_,_,_,hrun,.slice s.n 0 _ _ _ _ (bN.add_same _ _ _) hcap (by simp;omega),kV⟩
theorem ES (hT:lG P T) (h:gW ng T ι D B s w) {t u ty e:Nat} {te:TI} {k:IntKind} (ht:P.underlying t=some (.slice e)) (ej:T.get e=some te) (hu:P.underlying u=some (.int k))
  {x x' y y':Value} (hx:bj ι x x') (hy:bj ι y y') {v:Value} (hr:fO te e s x y=some (v,s')):
  ∃ι' v' w',(Builtin.append_ #[t,u] ty #[x',y']).run P w= .ok v' w'∧bj ι' v v'∧bH ng T B ι D s w ι' s' w':=by
 have jY:=hT e te ej
 obtain ⟨i,hi,hsz,hby,hz⟩:=jY.info
 unfold fO at hr
 split at hr
 ·rename_i n
  split at hr
  ·rename_i hc
   obtain ⟨h1,h2,h3⟩:=hc
   simp only [Option.some.injEq,Prod.mk.injEq] at hr
   obtain ⟨rfl,rfl⟩:=hr
   cases hx;cases hy
   obtain ⟨m,rfl⟩: ∃m:Nat,n=(m+1:Nat):=⟨n.toNat - 1,by omega⟩
   simp only [Int.toNat_natCast] at h2 ⊢
   have hle:m+1≤(m+1)*te.bytes:=Nat.le_mul_of_pos_right _ h3
   have hw:IntKind.i64.wrap ((m+1:Nat):Int)=((m+1:Nat):Int):=by
    simp only [IntKind.wrap,IntKind.bits,IntKind.signed];simp;omega
   have Ci:te.size=te.zero.cells.size:=by rw [←jY.Ia,il];simp
   have hcap:=grownCap_ge w (m+1) 0 e
   have hfit:=growslice_fits (old:=0) (need:=m+1) (by omega) h2
   have Lu: ∀q,(Builtin.zeroCells te.zero.cells q).toList=bz q (bc te.zero):=fun q=>by
    rw [il,←pE];rfl
   have hno: ¬(281474976710656<((m+1:Nat):Int)*(te.bytes:Int)):=by
    rw [←Int.natCast_mul];omega
   have hzero: ∀q,q*i.size=0→Builtin.zeroCells te.zero.cells q= #[]:=fun q hq=>by
    rw [hsz,Ci] at hq
    unfold Builtin.zeroCells
    rw [hq];apply Array.ext';simp
   have hrun:(Builtin.append_ #[t,u] ty #[.slice none 0 0,.int .i64 ((m+1:Nat):Int)]).run P w=
     .ok (.slice (some ⟨w.heap.size,0,none⟩) (m+1) (grownCap w (m+1) 0 e)) (w.drew.alloc (.cells (Builtin.zeroCells te.zero.cells (m+1)++Builtin.zeroCells te.zero.cells (grownCap w (m+1) 0 e - (m+1))) e)):=by
    generalize m+1=q at*
    have hne: ¬(q=0):=by omega
    have Qq: ¬(281474976710656<(q:Int)*(i.bytes:Int)):=by rw [hby];exact hno
    have Qr: ¬(9223372036854775807<(q:Int)):=by omega
    have Qt: ¬(281474976710656<Builtin.nextslicecap q 0*i.bytes):=by rw [hby];omega
    have hneg: ¬((q:Int)<0):=by omega
    by_cases h0:q*i.size=0
    ·have e0:=hzero q h0
     simp [Builtin.append_,run_underlying ht,run_underlying hu,sizeOf,typeInfo,zeroValue,hi,hz,hw,Qq,asInt,asIntOf,hne,Qr,Qt,hneg,h0,e0,Question.forced,run_firstCells_none,newRow,grownCap]
    ·simp [Builtin.append_,run_underlying ht,run_underlying hu,sizeOf,typeInfo,zeroValue,hi,hz,hw,Qq,asInt,asIntOf,hne,Qr,Qt,hneg,h0,Question.forced,run_firstCells_none,newRow,grownCap]
   have kV:=bH.cells (s:=s) (e:=e) (cs:=bz (m+1) (bc te.zero)) (cs':=bz (m+1) (bc te.zero)) (more:=(Builtin.zeroCells te.zero.cells (grownCap w (m+1) 0 e - (m+1))).toList) h true (grownCap w (m+1) 0 e - (m+1))
    (w':=w.drew.alloc (.cells (Builtin.zeroCells te.zero.cells (m+1)++Builtin.zeroCells te.zero.cells (grownCap w (m+1) 0 e - (m+1))) e)) (by
     show w.heap.push _=_
     congr 2
     apply Array.ext'
     simp [Lu]) (bg.FF jY.zero _) (by rw [Array.length_toList,size_zeroCells,qL ej,Ci];exact Nat.le_refl _) (fun hf=>by simp at hf)
   exact ⟨_,_,_,hrun,.slice s.n 0 _ _ _ _ (bN.add_same _ _ _) hcap (by simp;omega),kV⟩
  ·cases hr
 ·cases hr
theorem tE (hT:lG P T) (h:gW ng T ι D B s w) {t u ty e:Nat} {te:TI} (ht:P.underlying t=some (.slice e)) (ej:T.get e=some te)
  {x x' y y':Value} (IC: ∀b i,b∈bC x→ι b=some i→D b) (WI: ∀b i,b∈bC y→ι b=some i→D b) (hx:bj ι x x') (hy:bj ι y y') (hu:(∃e',P.underlying u=some (.slice e'))∨P.underlying u=some .string) (hst: ∀st,y= .string st→P.underlying u=some .string) (uI: ∀a b c,y= .slice a b c→ ∃e',P.underlying u=some (.slice e')) {v:Value} (hr:cy te e s x y=some (v,s')):
  ∃ι' v' w',(Builtin.append_ #[t,u] ty #[x',y']).run P w= .ok v' w'∧bj ι' v v'∧bH ng T B ι D s w ι' s' w':=by
 have jY:=hT e te ej
 obtain ⟨i,hi,hsz,hby,hz⟩:=jY.info
 unfold cy at hr
 split at hr
 ·cases hr
 ·rename_i n l hit
  obtain ⟨hlen,news,bZ,hsrc⟩:=BM (P:=P) h WI hy hit hu hst uI
  have hnews:=bZ.length
  have nothing:n=0→Src P i.size u y' 0 [] w:=fun e0=>by
   subst e0
   have KZ:l= []:=by simpa using hlen
   subst KZ
   cases bZ
   rw [hsz];exact hsrc rfl
  split at hr
  ·
   cases hx
   split at hr
   ·simp at hr
    obtain ⟨rfl,rfl⟩:=hr
    exact ⟨ι,_,w,run_append_nothing w t u ty e i ht hi none 0 0 (Nat.le_refl _) y' (nothing rfl),.oI _ _,bH.refl h rfl⟩
   ·rename_i n
    split at hr
    ·rename_i hc
     simp only [Bool.and_eq_true,Nat.ble_eq,Nat.blt_eq] at hc
     obtain ⟨⟨⟨h1,h2⟩,h3⟩,h4⟩:=hc
     simp at hr
     obtain ⟨rfl,rfl⟩:=hr
     have:=lW (P:=P) (ty:=ty) (olds:= []) (kZ:= []) hT h ht ej (base:=none) (len:=0) (cap':=0) (run_firstCells_none w.drew te.size 0 0 0) .nil bZ (hsrc h4) (by omega) (by simpa using h1) h2
     simpa using this
    ·cases hr
  ·rename_i a len cap
   split at hr
   ·cases hr
   ·rename_i hle
    rw [Nat.ble_eq] at hle
    split at hr
    ·simp at hr
     obtain ⟨rfl,rfl⟩:=hr
     cases hx with
     |slice b o l' c c' j hj h1 h2=>
      exact ⟨ι,_,w,run_append_nothing w t u ty e i ht hi _ _ _ (by omega) y' (nothing rfl),.slice _ _ _ _ _ _ hj h1 h2,bH.refl h rfl⟩
     |eA a a' ie FT=>
      exact ⟨ι,_,w,run_append_nothing w t u ty e i ht hi _ _ _ (by omega) y' (nothing rfl),.eA a a' ie FT,bH.refl h rfl⟩
    ·rename_i n
     split at hr
     ·rename_i hroom
      rw [Nat.ble_eq] at hroom
      split at hr
      ·rename_i s₁ hw
       simp at hr
       obtain ⟨rfl,rfl⟩:=hr
       cases hx with
       |eA a a' ie FT=>omega
       |slice b o l' c c' j hj h1 h2=>
        have gh:l.all scalar=true:=by
         unfold eW at hw
         split at hw
         ·split at hw
          ·rename_i hc;rw [Bool.and_eq_true] at hc;exact hc.2
          ·cases hw
         ·cases hw
        obtain ⟨g1,g2,g3,g4⟩:=h.store hw (IC _ _ (by simp [bC]) hj) hj bZ
        have e1:j.o+(o+len*te.size)=j.o+o+len*i.size:=by rw [hsz];omega
        rw [e1] at g1 g2 g4
        have hrun:=run_append_room_src (P:=P) w t u ty e i ht hi j.r (j.o+o) len c' y' (n+1) news (by rw [hsz];exact hsrc gh) (by omega) g1 g2
        exact ⟨ι,_,_,hrun,.slice _ _ _ _ _ _ hj h1 h2,g4⟩
      ·cases hr
     ·rename_i hroom
      have hroom: ¬len+(n+1)≤cap:=by
       intro hc;rw [←Nat.ble_eq] at hc;rw [hc] at hroom;cases hroom
      split at hr
      ·cases hr
      ·rename_i hc
       simp only [Bool.and_eq_true,Nat.ble_eq,Nat.blt_eq] at hc
       obtain ⟨⟨⟨h1,h2⟩,h3⟩,h4⟩:=hc
       have hs:=hsrc h4
       split at hr
       ·rename_i cs e' own hb
        split at hr
        ·rename_i PW
         have IG:=PW
         rw [Nat.ble_eq] at PW
         simp at hr
         obtain ⟨rfl,rfl⟩:=hr
         cases hx with
         |slice b o l' c c' j hj g1 g2=>
          have oP:=h.obj b _ j (IC _ _ (by simp [bC]) hj) hb hj
          have Ys:=oP.tight rfl
          have hread:cW s b o (len*te.size)=some ((cs.drop o).take (len*te.size)):=by
           simp only [cW,hb];simp only [] at IG;rw [IG]
          obtain ⟨D0,kZ,wO,hcell⟩:=h.read hread (IC _ _ (by simp [bC]) hj) hj
          exact lW (P:=P) (ty:=ty) hT h ht ej (run_firstCells_some w.drew te.size len _ len c' kZ (by rw [←wO.length];exact D0) (fun k v hk=>by rw [gm,tg];exact hcell k v hk))
           wO bZ hs (by rw [Ys] at g2;omega) h1 h2
         |eA a a' ie FT=>
          have:=lW (P:=P) (ty:=ty) (olds:= []) (kZ:= []) hT h ht ej (base:=some a') (len:=0) (cap':=0) (run_firstCells_some w.drew te.size 0 a' 0 0 [] (by simp) (by simp)) .nil bZ hs (by omega) h1 h2
          simpa using this
        ·cases hr
       ·rename_i cs e' hb
        split at hr
        ·rename_i hc
         simp only [Bool.and_eq_true] at hc
         obtain ⟨⟨⟨k1,k2⟩,k3⟩,k4⟩:=hc
         have k1:=Nat.eq_of_beq_eq_true k1
         have k2:=Nat.eq_of_beq_eq_true k2
         have k3:=Nat.eq_of_beq_eq_true k3
         have k4:=Nat.eq_of_beq_eq_true k4
         simp at hr
         obtain ⟨rfl,rfl⟩:=hr
         subst k1
         have Ep:=fun b=>bH.kill h b
         cases hx with
         |eA a a' ie FT=>
          have hcs:cs= []:=by simpa using k3.symm
          subst hcs
          have hk:=Ep a.block
          have BA:Src P te.size u y' (n+1) news w:=hs
          obtain ⟨ι',v',w',q1,q2,q3⟩:=lW (P:=P) (ty:=ty) (olds:= []) (kZ:= []) hT hk.lz ht ej (base:=some a') (len:=0) (cap':=0) (run_firstCells_some w.drew te.size 0 a' 0 0 [] (by simp) (by simp)) .nil bZ BA (by omega) h1 h2
          exact ⟨ι',v',w',q1,by simpa using q2,hk.trans (by simpa using q3)⟩
         |slice b o l' c c' j hj g1 g2=>
          simp only [] at hb k2
          subst k2 k4
          have oP:=h.obj b _ j (IC _ _ (by simp [bC]) hj) hb hj
          have hread:cW s b 0 (cap*te.size)=some cs:=by
           have:Nat.ble (0+cap*te.size) cs.length=true:=by rw [Nat.ble_eq];omega
           simp only [cW,hb,this]
           rw [k3];simp
          obtain ⟨D0,kZ,wO,hcell⟩:=h.read hread (IC _ _ (by simp [bC]) hj) hj
          by_cases hfit:cap+(n+1)≤c'
          ·have hcs:cs.length=cap*te.size:=k3.symm
           have hsize:xC T e'=te.size:=qL ej
           have Ua:l.length=(n+1)*te.size:=hlen
           have hbound:(n+1)*te.size+(c' - (cap+(n+1)))*te.size≤j.x*te.size:=by
            rw [←Nat.add_mul];exact Nat.mul_le_mul_right _ (by omega)
           have ll: ∀k,k<news.length→(w.cell? ⟨j.r,j.o+0+cap*i.size+k,none⟩).isSome=true:=fun k hk=>by
            have:=oP.room (cap*te.size+k) (by rw [hsize,hcs];omega)
            rw [hsz,Nat.add_zero,Nat.add_assoc];exact this
           have qG: ∀k,k<news.length→w.frozen? ⟨j.r,j.o+0+cap*i.size+k,none⟩=false:=fun k hk=>by
            have:=(oP.mine rfl).2 (cap*te.size+k) (by rw [hsize,hcs];omega)
            rw [hsz,Nat.add_zero,Nat.add_assoc];exact this
           have hrun:=run_append_room_src (P:=P) w t u ty e' i ht hi j.r (j.o+0) cap c' y' (n+1) news (by rw [hsz];exact hs) hfit ll qG
           have Kx: ∀k,(k<cap*te.size∨cap*te.size+news.length≤k)→(w.setCells j.r (j.o+0+cap*i.size) news).cell? ⟨j.r,j.o+k,none⟩=w.cell? ⟨j.r,j.o+k,none⟩:=fun k hk=>
            World.cell?_setCells_out _ _ _ _ _ fun _ _=>by simp [hsz];omega
           have hin: ∀k (hk:k<news.length),(w.setCells j.r (j.o+0+cap*i.size) news).cell? ⟨j.r,j.o+0+cap*i.size+k,none⟩=some news[k]:=fun k hk=>World.cell?_setCells_in _ _ _ _ ll k hk
           have hle:=bN.pC h.lt ⟨j.r,j.o,c' - (cap+(n+1))⟩
           have kV:=bH.grow (hO:=mg _ _ _ _) (w':=w.setCells j.r (j.o+0+cap*i.size) news) (o':= .cells (cs++l) e' true true) h (c' - (cap+(n+1))) (IC _ _ (by simp [bC]) hj) hb hj rfl (gp _ _ _ _) (fun r hr=>jo _ _ _ _ _ hr)
            ⟨by
             rw [gp];exact oP.there,fun k v hk=>by
             by_cases c1:k<cs.length
             ·rw [List.getElem?_append_left c1] at hk
              obtain ⟨v',q1,q2⟩:=oP.kQ k v hk
              exact ⟨v',by rw [Kx k (.inl (by omega))];exact q1,q2.mono hle⟩
             ·rw [List.getElem?_append_right (by omega)] at hk
              obtain ⟨v',q1,q2⟩:=bZ.get hk
              have hk':k - cs.length<news.length:=(List.getElem?_eq_some_iff.1 q1).1
              refine ⟨v',?_,q2.mono hle⟩
              have:=hin (k - cs.length) hk'
              rw [show j.o+0+cap*i.size+(k - cs.length)=j.o+k by rw [hsz];omega] at this
              show (w.setCells j.r (j.o+0+cap*i.size) news).cell? ⟨j.r,j.o+k,none⟩=_
              rw [this]
              rw [List.getElem?_eq_getElem hk'] at q1
              exact q1,
             fun k hk=>by
              simp only [List.length_append] at hk
              exact World.isSome_setCells _ _ _ _ _ (oP.room k (by rw [hsize] at hk ⊢;omega)),
             fun hf=>by simp at hf,
             fun _=>⟨(oP.mine rfl).1,fun k hk=>by
              simp only [List.length_append] at hk
              rw [World.frozen?_setCells]
              exact (oP.mine rfl).2 k (by rw [hsize] at hk ⊢;omega)⟩,
             fun hf=>by simp at hf⟩
           refine ⟨_,_,_,hrun,?_,kV⟩
           have:=bj.slice (ι:=ι.add s.n ⟨j.r,j.o,c' - (cap+(n+1))⟩) s.n 0 (cap+(n+1)) (cap+(n+1)) c' _ (bN.add_same _ _ _) hfit (by simp;omega)
           exact this
          ·have hk:=Ep b
           obtain ⟨ι',v',w',q1,q2,q3⟩:=lW (P:=P) (ty:=ty) hT hk.lz ht ej (base:=some ⟨j.r,j.o+0,none⟩) (len:=cap) (cap':=c') (run_firstCells_some w.drew te.size cap _ cap c' kZ (by rw [←wO.length];exact D0) (fun k v hk=>by rw [gm,tg];exact hcell k v hk))
            wO bZ hs (by omega) h1 h2
           exact ⟨ι',v',w',q1,q2,hk.trans q3⟩
        ·cases hr
       ·cases hr
  ·cases hr
end Go.Vm
end
