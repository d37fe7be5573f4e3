/-
  PROVED: gantrylaw33.PromiseBytes answers true at every input, and its arguments read afterwards as before; the listed variables are tied to the program's text. No condition.
-/
import Derived.Test.YtalmddmghdinkaaGreatDoorRows
import Derived.JoinedOf
import Derived.KernelRfl
import Derived.Test.YtalmddmghdinkaaGreatDoorCards
import Derived.Test.YtalmddmghdinkaaGreatDoorTie
import Derived.SevenTiedAt
import Derived.Test.YtalmddmghdinkaaGreatDoorZ
set_option linter.all false
set_option linter.deprecated false
noncomputable section
namespace Go.Vm.X
open Go Go.Vm Go.Proofs Go.Proofs.bt Go.Proofs.YtalmddmghdinkaaGreatDoor Go.ChangeShapes Go.WideShapes
set_option maxRecDepth 100000
theorem Rs.ints {Z:Nat→Prop} {h:Tr eI} {κ:cd} (k:IntKind): ∀l:List Int,Rs Z h κ (l.map (V.int k)) (l.map (Value.int k))
 | []=> .nil _
 |a::l=> .cons _ _ _ _ _ (.int _ _ _) (Rs.ints k l)
theorem qt {w:World} {b o:Nat} {v:Value} (h:w.cell? ⟨b,o,none⟩=some v):b<w.heap.size:=by
 unfold World.cell? at h
 cases hb:w.heap[b]? with
 |none=>simp [hb] at h
 |some x=>exact (Array.getElem?_eq_some_iff.1 hb).1
structure vI (W:World) (k:IntKind) (e:Nat) (v:Value) (l:List Int) (cs:List Value) (i:lC):Prop where
 wf: ∀x,x∈l→(Lit.int k x).wf=true
 rel: ∀ {T:Types} {ι:bN},qP T ι W.heap.size cs e false false i W
 val: ∀b:Nat,∃u x,Is k x l∧(∀ι:bN,ι b=some i→bj ι u v)∧ ∀(Z:Nat→Prop) (h:Tr eI) (κ:cd),Z b→h.get b=some (.cells cs e false false)→R Z h κ x u
theorem CK {H:Type} {enc:TypeId×Value→H} {P:Program} {W:World} {base t e:Nat} {k:IntKind} {v:Value} {d:DataW H} {p:List MemPlace} (hB:0<W.heap.size) (ht:P.underlying t=some (.slice e)) (he:P.underlying e=some (.int k)) (hc:P.cellsOf e=1)
  (hv:Value.okWide P W .any base t v) (h:DataW.Trod enc P W 0 (fun _=>true) true t v d p): ∃l cs i,vI W k e v l cs i:=by
 obtain ⟨a0,len,cap,rfl⟩:=okWide_slice ht hv
 obtain ⟨fuel,h⟩:=h
 have empty: ∀ {T:Types} {ι:bN},qP T ι W.heap.size [] e false false ⟨0,0,0⟩ W:=fun {T ι} =>
  ⟨hB,fun j v hj=>(by simp at hj),fun j hj=>(by simp at hj),fun _=>rfl,fun h=>(by cases h),fun _=>hB⟩
 rcases open_ints ht he hc h with ⟨hcs,_⟩|⟨a,len',cap',zs,hcs,_,hle,_,hlen,_,hcell,hwf⟩
 ·have e1:Value.slice a0 len cap= .slice none 0 0:=by simpa [Value.cells] using hcs
  rw [e1]
  exact ⟨[], [],⟨0,0,0⟩,fun x hx=>(by cases hx),empty,fun b=>⟨.slice none 0 0,.ah,Is.nil k,fun ι _=> .oI 0 0,fun Z h κ _ _=> .ah κ⟩⟩
 ·have e1:Value.slice a0 len cap= .slice (some a) len' cap':=by simpa [Value.cells] using hcs
  rw [e1]
  simp only [if_true] at hlen
  by_cases h0:0<zs.length
  ·obtain ⟨b0,off,rfl,Bm⟩:=ints_at hcell h0
   have hlt:=qt (Bm 0 h0)
   refine ⟨zs.take len',zs.map (Value.int k),⟨b0,off,0⟩,fun x hx=>hwf x (List.mem_of_mem_take hx),fun {T ι} =>⟨hlt,fun j v hj=> ?_,fun j hj=> ?_,fun _=>rfl,fun h=>(by cases h),fun _=>hlt⟩,fun b=>⟨.slice (some ⟨b,0,none⟩) len' cap',_,Is.mk k _,fun ι hi=> ?_,fun Z h κ hz hg=> ?_⟩⟩
   ·rw [List.getElem?_map] at hj
    cases hz:zs[j]? with
    |none=>rw [hz] at hj;cases hj
    |some x=>
     rw [hz] at hj
     cases hj
     have sM:=(List.getElem?_eq_some_iff.1 hz).1
     refine ⟨.int k x,?_,.int _ _⟩
     rw [Bm j sM,List.getD_eq_getElem?_getD,hz];rfl
   ·simp only [List.length_map,Nat.zero_mul,Nat.add_zero] at hj
    rw [Bm j hj];rfl
   ·exact bj.slice b 0 len' cap' cap' ⟨b0,off,0⟩ hi (Nat.le_refl _) (Nat.le_refl _)
   ·have hl:(zs.take len').length=len':=by rw [List.length_take];omega
    rw [hl]
    refine .iL κ _ _ b 0 cap' (zs.map (Value.int k)) e false false hz hg (by simp only [List.length_map,List.length_take];omega) (by omega) ?_
    rw [List.drop_zero,List.length_map,hl,←List.map_take]
    exact Rs.ints k _
  ·have Hq:cap'=0:=by omega
   have KZ:len'=0:=by omega
   subst Hq KZ
   refine ⟨[], [],⟨0,0,0⟩,fun x hx=>(by cases hx),empty,fun b=>⟨.slice (some ⟨b,0,none⟩) 0 0,_,Is.mk k [],fun ι hi=> ?_,fun Z h κ hz hg=> ?_⟩⟩
   ·exact .eA ⟨b,0,none⟩ a _ hi
   ·exact .iL κ _ _ b 0 0 [] e false false hz hg (by simp) (by simp) (.nil _)
def Pl:List (Value×Value):= [(.int .i64 0,.agg #[fv 453,fv 228]),(.int .i64 1,.agg #[fv 454,fv 455]),(.int .i64 2,.agg #[fv 456,fv 457])]
def Mn (c3 c4:List Value) (e3 e4:Nat):St:= { h:=((((Tr.leaf.set 0 (.cells [fv 449,fv 450,fv 451,fv 452] 204 false false)).set 1 (.cells [.map (some 2)] 318 false false)).set 2 (.map Pl false)).set 3 (.cells c3 e3 false false)).set 4 (.cells c4 e4 false false),n:=5,wm:=5 }
def iW (bm:Nat) (i3 i4:lC):bN:=fun b=>match b with
 |0=>some ⟨0,0,0⟩
 |1=>some ⟨1,0,0⟩
 |2=>some ⟨bm,0,0⟩
 |3=>some i3
 |4=>some i4
 |_=>none
theorem kL (c3 c4:List Value) (e3 e4 b:Nat):(Mn c3 c4 e3 e4).h.get b=if b=4 then some (.cells c4 e4 false false) else if b=3 then some (.cells c3 e3 false false) else if b=2 then some (.map Pl false) else
  if b=1 then some (.cells [.map (some 2)] 318 false false) else if b=0 then some (.cells [fv 449,fv 450,fv 451,fv 452] 204 false false) else none:=by
 simp only [Mn,Tr.gv,Tr.fu]
theorem QZ {bm:Nat} {i3 i4:lC} {b:Nat} {i:lC} (h:iW bm i3 i4 b=some i):b<5:=by
 unfold iW at h
 split at h<;>first|omega|cases h
theorem xd {ι:bN} : ∀ {es:List (Value×Value)} {l:List MapEntry},l.map (fun e=>(e.key,e.val))=es→(∀p∈es,iM p.1=true∧iM p.2=true)→fq ι es l
 | [], [],_,_=>trivial
 | [],_::_,h,_=>by cases h
 |_::_, [],h,_=>by cases h
 |(a,b)::es,e::l,h,hp=>by
  simp only [List.map_cons,List.cons.injEq,Prod.mk.injEq] at h
  obtain ⟨⟨rfl,rfl⟩,h⟩:=h
  have:=hp _ (List.mem_cons_self ..)
  exact ⟨.fW this.1,.fW this.2,xd h fun p hm=>hp p (List.mem_cons_of_mem _ hm)⟩
theorem we (c3 c4:List Value) (e3 e4 b:Nat) (o:eI) (h:(Mn c3 c4 e3 e4).h.get b=some o):live o=false:=by
 rw [kL] at h
 repeat' split at h
 all_goals first|(cases h;done)|(cases h;rfl)
theorem BP {W:World} (hL:laidMetH Tryz.prog ov W) {k3 k4:IntKind} {v3 v4:Value} {l3 l4:List Int} {c3 c4:List Value} {e3 e4:Nat} {i3 i4:lC} (h3:vI W k3 e3 v3 l3 c3 i3) (h4:vI W k4 e4 v4 l4 c4 i4):
  ∃bm,gW 2 types (iW bm i3 i4) (Full (iW bm i3 i4)) W.heap.size (Mn c3 c4 e3 e4) W∧iP 2 (iW bm i3 i4):=by
 have hx:=Au hL
 obtain ⟨bm,ms,clock,l,h1,hb,hp,hl⟩:=BH hL
 have z0:=qt (hx 0 _ rfl)
 have z1:=qt h1
 have zb:bm<W.heap.size:=(Array.getElem?_eq_some_iff.1 hb).1
 refine ⟨bm,⟨fun b o i _ hg hi=> ?_,fun b b' o o' i i' _ _ hg _ hl _ _ _ _=> ?_,fun b i hi=>QZ hi,Nat.le_refl _⟩,fun g hg=> ?_⟩
 ·rw [kL] at hg
  split at hg
  ·rename_i e;subst e;cases hg;cases hi;exact h4.rel
  split at hg
  ·rename_i e;subst e;cases hg;cases hi;exact h3.rel
  split at hg
  ·rename_i e;subst e;cases hg;cases hi
   refine ⟨⟨ms,clock,hb,l,xd hl (by simp [Pl,fv,iM,plain]),.inr ⟨rfl,hp,?_,.i64,?_⟩⟩,fun h=>(by cases h),fun _=>zb⟩
   ·have:l.map (fun e=>HO e.key)=(l.map fun e=>(e.key,e.val)).map fun p=>HO p.1:=by rw [List.map_map];rfl
    rw [this,hl];decide
   ·intro e he
    have:(e.key,e.val)∈l.map fun e=>(e.key,e.val):=List.mem_map.2 ⟨e,he,rfl⟩
    rw [hl] at this
    simp only [List.mem_cons,Prod.mk.injEq,List.not_mem_nil,or_false] at this
    rcases this with h|h|h<;>exact ⟨_,h.1⟩
  split at hg
  ·rename_i e;subst e;cases hg;cases hi
   refine ⟨z1,fun j v hj=> ?_,fun j hj=> ?_,fun _=>rfl,fun h=>(by cases h),fun _=>z1⟩
   ·match j,hj with
    |0,hj=>cases hj;exact ⟨_,h1,.map 2 ⟨bm,0,0⟩ rfl⟩
    |j+1,hj=>simp at hj
   ·have:j=0:=by simp only [List.length_cons,List.length_nil,Nat.zero_mul] at hj;omega
    subst this
    show (W.cell? ⟨1,0+0,none⟩).isSome=true
    rw [h1];rfl
  split at hg
  ·rename_i e;subst e;cases hg;cases hi
   refine ⟨z0,fun j v hj=>⟨v,by rw [Nat.zero_add];exact hx j v hj,bj.jX ?_⟩,fun j hj=> ?_,fun _=>rfl,fun h=>(by cases h),fun _=>z0⟩
   ·have:=List.mem_of_getElem? hj
    simp only [List.mem_cons,List.not_mem_nil,or_false] at this
    rcases this with rfl|rfl|rfl|rfl<;>rfl
   ·have hj:j<4:=by simpa using hj
    have: ∃v, [fv 449,fv 450,fv 451,fv 452][j]? =some v:=⟨_,List.getElem?_eq_getElem (by simpa using hj)⟩
    obtain ⟨v,hv⟩:=this
    show (W.cell? ⟨0,0+j,none⟩).isSome=true
    rw [Nat.zero_add,hx j v hv];rfl
  ·cases hg
 ·rw [we _ _ _ _ _ _ hg] at hl;cases hl
 ·match g,hg with
  |0,_=>exact ⟨0,rfl⟩
  |1,_=>exact ⟨0,rfl⟩
def kW:cd:=fun b=>if b<3 then some b else none
theorem rZ (b:Nat):s0.h.get b=if b=2 then some g2 else if b=1 then some g1 else if b=0 then some g0 else none:=by
 simp only [s0,Tr.gv,Tr.fu]
theorem Fj (c3 c4:List Value) (e3 e4:Nat):Sm 2 kW (fun c=>c<5) s0 (Mn c3 c4 e3 e4):=by
 have vB: ∀ {h:Tr eI} {κ:cd} (n:Nat),R (fun c=>c<5) h κ (.fn n [] []) (fv n):=fun n=> .fn _ _ _ _ _ _ (.nil _) (.nil _)
 have kk: ∀ {b c:Nat},kW b=some c→c=b∧b<3:=fun {b c} h=>by
  unfold kW at h
  split at h
  ·cases h;exact ⟨rfl,by assumption⟩
  ·cases h
 refine ⟨fun b o c hb hk=> ?_,fun b c hk=> ?_,fun b b' c h h'=> ?_,fun b o c hb hl hk=> ?_,fun c h=>h,⟨Nat.le_refl _,Nat.le_refl _⟩,fun g hg=> ?_,fun b cs e bL c hb hk=> ?_⟩
 ·obtain ⟨rfl,hlt⟩:=kk hk
  rw [rZ] at hb
  split at hb
  ·rename_i e;subst e;cases hb
   refine ⟨.map Pl false,by rw [kL];rfl,Pl,false,rfl,?_,fun h=>h⟩
   exact ⟨.int _ _ _,.agg _ _ _ (.cons _ _ _ _ _ (vB _) (.cons _ _ _ _ _ (vB _) (.nil _))),.int _ _ _,.agg _ _ _ (.cons _ _ _ _ _ (vB _) (.cons _ _ _ _ _ (vB _) (.nil _))),.int _ _ _,.agg _ _ _ (.cons _ _ _ _ _ (vB _) (.cons _ _ _ _ _ (vB _) (.nil _))),trivial⟩
  split at hb
  ·rename_i e;subst e;cases hb
   exact ⟨_,by rw [kL];rfl,_,false,rfl,.cons _ _ _ _ _ (.map _ 2 2 rfl) (.nil _),fun h=>h⟩
  split at hb
  ·rename_i e;subst e;cases hb
   exact ⟨_,by rw [kL];rfl,_,false,rfl,.cons _ _ _ _ _ (vB _) (.cons _ _ _ _ _ (vB _) (.cons _ _ _ _ _ (vB _) (.cons _ _ _ _ _ (vB _) (.nil _)))),fun h=>h⟩
  ·cases hb
 ·obtain ⟨rfl,h⟩:=kk hk;exact ⟨h,by show c<5;omega⟩
 ·obtain ⟨rfl,_⟩:=kk h;obtain ⟨e,_⟩:=kk h';exact e
 ·rw [rZ] at hb
  repeat' split at hb
  all_goals first|(cases hb;done)|(cases hb;cases hl)
 ·simp only [kW,if_pos (show g<3 by omega)]
 ·obtain ⟨rfl,h⟩:=kk hk;show c<5;omega
theorem Fe {W:World} (hL:laidMetH Tryz.prog ov W) {k3 k4:IntKind} {v3 v4:Value} {l3 l4:List Int} {c3 c4:List Value} {e3 e4:Nat} {i3 i4:lC} (h3:vI W k3 e3 v3 l3 c3 i3) (h4:vI W k4 e4 v4 l4 c4 i4) {f:Nat} {n m:Int}
  (hc: ∀x y,Is k3 x l3→Is k4 y l4→ ∃r,r= .bool true∧vV OL funcs types f [x,.int .i64 n,.int .i64 m,y] s0=some (r,s0)):
  Calls Tryz.prog f #[v3,.int .i64 n,.int .i64 m,v4] W fun e W'=>e= .returned (.bool true)∧W'.os=W.os∧W'.output=W.output∧W.heap.size≤W'.heap.size∧ ∀r,r<W.heap.size→W'.heap[r]? =W.heap[r]? :=by
 obtain ⟨bm,fC,hg⟩:=BP hL h3 h4
 obtain ⟨u3,x3,Us,Ui,hR3⟩:=h3.val 3
 obtain ⟨u4,x4,Yt,hr4,hR4⟩:=h4.val 4
 obtain ⟨_,rfl,hrun⟩:=hc x3 x4 Us Yt
 obtain ⟨N,r,kV,hr⟩:=C0 _ _ _ _ hrun (Nat.le_refl _)
 split at hr
 ·rename_i v s
  obtain ⟨hr,_⟩:=hr
  cases hr
  have g3:(Mn c3 c4 e3 e4).h.get 3=some (.cells c3 e3 false false):=by rw [kL];rfl
  have g4:(Mn c3 c4 e3 e4).h.get 4=some (.cells c4 e4 false false):=by rw [kL];rfl
  obtain ⟨κ₂,Z₂,u,SL,hu,_,Kw⟩:=AQ (B:=W.heap.size) (P:=Tryz.prog) (by kernel_rfl) tOk gOk (Ie (C7 gOk)) kV (Fj c3 c4 e3 e4) (AK:= [u3,.int .i64 n,.int .i64 m,u4])
   (.cons _ _ _ _ _ (hR3 _ _ _ (by decide) g3) (.cons _ _ _ _ _ (.int _ _ _) (.cons _ _ _ _ _ (.int _ _ _) (.cons _ _ _ _ _ (hR4 _ _ _ (by decide) g4) (.nil _)))))
   (fun _=>Nat.le_refl _) fC hg (args':= #[v3,.int .i64 n,.int .i64 m,v4]) (.cons _ _ _ _ (Ui _ rfl) (.cons _ _ _ _ (.int _ _) (.cons _ _ _ _ (.int _ _) (.cons _ _ _ _ (hr4 _ rfl) .nil))))
  refine (callsIn_wide.1 Kw).mono fun e W' hp=> ?_
  obtain ⟨ι',v',he,hv,ql⟩:=hp
  cases hu
  cases hv
  exact ⟨he,ql.out.1,ql.out.2,ql.size,fun r hr=>ql.mY r hr fun b i o _ _ hb hl=>by rw [we _ _ _ _ _ _ hb] at hl;cases hl⟩
 ·exact hr.elim
end Go.Vm.X
end
section
namespace Go.Proofs.YtalmddmghdinkaaGreatDoor
open Go
set_option maxRecDepth 100000
set_option linter.all false
theorem jf0:(fun (P:Program) (f:FuncId) (fn:Func) (s:ChangeSpec) (c:OpenClaim)=>(c.wf (OpenSpec.ofChange s):Bool)) Tryz.prog 4 Tryz.f4 Rows.promiseBytesSpec Rows.promiseBytesRow=true:=by kernel_rfl
theorem jf1:(fun (P:Program) (f:FuncId) (fn:Func) (s:ChangeSpec) (c:OpenClaim)=>(laidOutB P:Bool)) Tryz.prog 4 Tryz.f4 Rows.promiseBytesSpec Rows.promiseBytesRow=true:=by kernel_rfl
theorem jf2:(fun (P:Program) (f:FuncId) (fn:Func) (s:ChangeSpec) (c:OpenClaim)=>(mapsRowed P:Bool)) Tryz.prog 4 Tryz.f4 Rows.promiseBytesSpec Rows.promiseBytesRow=true:=by kernel_rfl
theorem jf3:(fun (P:Program) (f:FuncId) (fn:Func) (s:ChangeSpec) (c:OpenClaim)=>(fn.params.all (P.readableRec ·):Bool)) Tryz.prog 4 Tryz.f4 Rows.promiseBytesSpec Rows.promiseBytesRow=true:=by kernel_rfl
theorem jf4:(fun (P:Program) (f:FuncId) (fn:Func) (s:ChangeSpec) (c:OpenClaim)=>(namedTie P c.named s.vars:Bool)) Tryz.prog 4 Tryz.f4 Rows.promiseBytesSpec Rows.promiseBytesRow=true:=by kernel_rfl
theorem jf5:(fun (P:Program) (f:FuncId) (fn:Func) (s:ChangeSpec) (c:OpenClaim)=>((c.stops == []):Bool)) Tryz.prog 4 Tryz.f4 Rows.promiseBytesSpec Rows.promiseBytesRow=true:=by kernel_rfl
theorem jf6:(fun (P:Program) (f:FuncId) (fn:Func) (s:ChangeSpec) (c:OpenClaim)=>((P.stops == []):Bool)) Tryz.prog 4 Tryz.f4 Rows.promiseBytesSpec Rows.promiseBytesRow=true:=by kernel_rfl
theorem jf7:(fun (P:Program) (f:FuncId) (fn:Func) (s:ChangeSpec) (c:OpenClaim)=>((c.knobs == []):Bool)) Tryz.prog 4 Tryz.f4 Rows.promiseBytesSpec Rows.promiseBytesRow=true:=by kernel_rfl
theorem jf8:(fun (P:Program) (f:FuncId) (fn:Func) (s:ChangeSpec) (c:OpenClaim)=>((P.stopKnobs == []):Bool)) Tryz.prog 4 Tryz.f4 Rows.promiseBytesSpec Rows.promiseBytesRow=true:=by kernel_rfl
theorem jf9:(fun (P:Program) (f:FuncId) (fn:Func) (s:ChangeSpec) (c:OpenClaim)=>((c.inPlace == P.inPlace f):Bool)) Tryz.prog 4 Tryz.f4 Rows.promiseBytesSpec Rows.promiseBytesRow=true:=by kernel_rfl
theorem YN:(fun (P:Program) (f:FuncId) (fn:Func) (s:ChangeSpec) (c:OpenClaim)=>((c.unfollowed == P.unfollowed f):Bool)) Tryz.prog 4 Tryz.f4 Rows.promiseBytesSpec Rows.promiseBytesRow=true:=by kernel_rfl
theorem YO:(fun (P:Program) (f:FuncId) (fn:Func) (s:ChangeSpec) (c:OpenClaim)=>((c.recurses == P.recurses f):Bool)) Tryz.prog 4 Tryz.f4 Rows.promiseBytesSpec Rows.promiseBytesRow=true:=by kernel_rfl
theorem YP:(fun (P:Program) (f:FuncId) (fn:Func) (s:ChangeSpec) (c:OpenClaim)=>((c.named == P.varsNamed f):Bool)) Tryz.prog 4 Tryz.f4 Rows.promiseBytesSpec Rows.promiseBytesRow=true:=by kernel_rfl
theorem YQ:(fun (P:Program) (f:FuncId) (fn:Func) (s:ChangeSpec) (c:OpenClaim)=>((c.maps == (fn.params.toList++s.plain.varTypes P).any (P.mapsRec ·)):Bool)) Tryz.prog 4 Tryz.f4 Rows.promiseBytesSpec Rows.promiseBytesRow=true:=by kernel_rfl
theorem YR:(fun (P:Program) (f:FuncId) (fn:Func) (s:ChangeSpec) (c:OpenClaim)=>((c.ifaces == (fn.params.toList++s.plain.varTypes P).any (P.ifacesRec ·)):Bool)) Tryz.prog 4 Tryz.f4 Rows.promiseBytesSpec Rows.promiseBytesRow=true:=by kernel_rfl
theorem YS:(fun (P:Program) (f:FuncId) (fn:Func) (s:ChangeSpec) (c:OpenClaim)=>((c.mapsOut == P.mapsAmong fn.resultTypes.toList):Bool)) Tryz.prog 4 Tryz.f4 Rows.promiseBytesSpec Rows.promiseBytesRow=true:=by kernel_rfl
theorem YT:(fun (P:Program) (f:FuncId) (fn:Func) (s:ChangeSpec) (c:OpenClaim)=>((c.loops == (fn.params.toList++s.plain.varTypes P).any (P.loopsFrom ·)):Bool)) Tryz.prog 4 Tryz.f4 Rows.promiseBytesSpec Rows.promiseBytesRow=true:=by kernel_rfl
theorem YU:(fun (P:Program) (f:FuncId) (fn:Func) (s:ChangeSpec) (c:OpenClaim)=>((c.wideKeys == (fn.params.toList++s.plain.varTypes P++fn.resultTypes.toList).any (P.wideKeysFrom ·)):Bool)) Tryz.prog 4 Tryz.f4 Rows.promiseBytesSpec Rows.promiseBytesRow=true:=by kernel_rfl
theorem YV:(fun (P:Program) (f:FuncId) (fn:Func) (s:ChangeSpec) (c:OpenClaim)=>(s.vars.all (P.varReadable ·):Bool)) Tryz.prog 4 Tryz.f4 Rows.promiseBytesSpec Rows.promiseBytesRow=true:=by kernel_rfl
theorem YW:(fun (P:Program) (f:FuncId) (fn:Func) (s:ChangeSpec) (c:OpenClaim)=>(fn.resultTypes.all (fun t=>P.readableRec t && decide (t<P.types.size)):Bool)) Tryz.prog 4 Tryz.f4 Rows.promiseBytesSpec Rows.promiseBytesRow=true:=by kernel_rfl
theorem YX:(fun (P:Program) (f:FuncId) (fn:Func) (s:ChangeSpec) (c:OpenClaim)=>((c.ifacesOut == fn.resultTypes.toList.any (P.ifacesRec ·)):Bool)) Tryz.prog 4 Tryz.f4 Rows.promiseBytesSpec Rows.promiseBytesRow=true:=by kernel_rfl
theorem YY:(fun (P:Program) (f:FuncId) (fn:Func) (s:ChangeSpec) (c:OpenClaim)=>((c.loopsOut == fn.resultTypes.toList.any (P.loopsFrom ·)):Bool)) Tryz.prog 4 Tryz.f4 Rows.promiseBytesSpec Rows.promiseBytesRow=true:=by kernel_rfl
theorem YZ:(fun (P:Program) (f:FuncId) (fn:Func) (s:ChangeSpec) (c:OpenClaim)=>((c.plainKeys == P.plainKeys):Bool)) Tryz.prog 4 Tryz.f4 Rows.promiseBytesSpec Rows.promiseBytesRow=true:=by kernel_rfl
theorem Y0:(fun (P:Program) (f:FuncId) (fn:Func) (s:ChangeSpec) (c:OpenClaim)=>(c.shortTexts.isNone:Bool)) Tryz.prog 4 Tryz.f4 Rows.promiseBytesSpec Rows.promiseBytesRow=true:=by kernel_rfl
theorem Y1:(fun (P:Program) (f:FuncId) (fn:Func) (s:ChangeSpec) (c:OpenClaim)=>(P.stopsHeard:Bool)) Tryz.prog 4 Tryz.f4 Rows.promiseBytesSpec Rows.promiseBytesRow=true:=by kernel_rfl
theorem Y2:(fun (P:Program) (f:FuncId) (fn:Func) (s:ChangeSpec) (c:OpenClaim)=>(P.mayEnter:Bool)) Tryz.prog 4 Tryz.f4 Rows.promiseBytesSpec Rows.promiseBytesRow=true:=by kernel_rfl
theorem Y3:(fun (P:Program) (f:FuncId) (fn:Func) (s:ChangeSpec) (c:OpenClaim)=>((c.lifted == P.liftsFinal):Bool)) Tryz.prog 4 Tryz.f4 Rows.promiseBytesSpec Rows.promiseBytesRow=true:=by kernel_rfl
theorem Y4:(fun (P:Program) (f:FuncId) (fn:Func) (s:ChangeSpec) (c:OpenClaim)=>((P.make == some c.make):Bool)) Tryz.prog 4 Tryz.f4 Rows.promiseBytesSpec Rows.promiseBytesRow=true:=by kernel_rfl
theorem Y5:(fun (P:Program) (f:FuncId) (fn:Func) (s:ChangeSpec) (c:OpenClaim)=>((c.kinds == (if c.domain.isEmpty then [] else fn.params.toList.map fun t=>match P.underlying t with|some (.int k)=>some k|_=>none)):Bool)) Tryz.prog 4 Tryz.f4 Rows.promiseBytesSpec Rows.promiseBytesRow=true:=by kernel_rfl
theorem Y6:(fun (P:Program) (f:FuncId) (fn:Func) (s:ChangeSpec) (c:OpenClaim)=>((c.pinned == c.pinnedBy):Bool)) Tryz.prog 4 Tryz.f4 Rows.promiseBytesSpec Rows.promiseBytesRow=true:=by kernel_rfl
theorem Y7:(fun (P:Program) (f:FuncId) (fn:Func) (s:ChangeSpec) (c:OpenClaim)=>((c.veiled == (fn.params.toList++s.plain.varTypes P++fn.resultTypes.toList).any (P.veiledRec ·)):Bool)) Tryz.prog 4 Tryz.f4 Rows.promiseBytesSpec Rows.promiseBytesRow=true:=by kernel_rfl
theorem Y8:(fun (P:Program) (f:FuncId) (fn:Func) (s:ChangeSpec) (c:OpenClaim)=>(c.veiledFits P fn.params.toList (fn.params.toList++s.plain.varTypes P++fn.resultTypes.toList):Bool)) Tryz.prog 4 Tryz.f4 Rows.promiseBytesSpec Rows.promiseBytesRow=true:=by kernel_rfl
theorem gy {a b:Bool} (h:a=true) (h':b=true):(a && b)=true:=by rw [h,h'];rfl
theorem Q4:joinedFacts Tryz.prog 4 Tryz.f4 Rows.promiseBytesSpec Rows.promiseBytesRow=true:=(gy (gy (gy (gy (gy (gy (gy (gy (gy (gy (gy (gy (gy (gy (gy (gy (gy (gy (gy (gy (gy (gy (gy (gy (gy (gy (gy (gy (gy (gy (gy jf0 jf1) jf2) jf3) jf4) jf5) jf6) jf7) jf8) jf9) YN) YO) YP) YQ) YR) YS) YT) YU) YV) YW) YX) YY) YZ) Y0) Y1) Y2) Y3) Y4) Y5) Y6) Y7) Y8)
end Go.Proofs.YtalmddmghdinkaaGreatDoor
end
noncomputable section
namespace Go.Proofs.YtalmddmghdinkaaGreatDoor
open Go Go.Vm Go.Vm.X Go.Proofs.bt Go.ChangeShapes Go.WideShapes Go.ChangeAt Go.RowKit
set_option maxRecDepth 100000
theorem own:ownKnob Tryz.prog.godebug=none:=by kernel_rfl
theorem laidOut:laidOutB Tryz.prog=true:=by kernel_rfl
theorem Dd (os:Os) (args:Array Value):laidMetH Tryz.prog ov ((World.doorLaid Tryz.prog 39 os).forCall (fun _ _=>0) ⟨#[],args, []⟩).memory:=
 laidMetH_of_parts3 (fuel:=8) (laidMet_of_run' 8 (by kernel_rfl) (by kernel_rfl)) (by kernel_rfl) (by kernel_rfl)
theorem c5:Tryz.prog.cellsOf 5=1:=by kernel_rfl
theorem c3:Tryz.prog.cellsOf 3=1:=by kernel_rfl
theorem DP {W:World} (h:laidMetH Tryz.prog ov W):0<W.heap.size:=qt (Au h 0 _ rfl)
theorem Ct:G3 s0:=⟨by rw [rZ];rfl,by rw [rZ];rfl,by rw [rZ];rfl⟩
theorem lifted (os:Os) (started:os.Started) (H:Type) (enc:TypeId×Value→H):
  ReturnsInHanded {} Tryz.checked os 4 .any (fun w args=>(Rows.promiseBytesSpec.pre enc Tryz.prog Tryz.f4 [] false w args∧laidMetH Tryz.prog ov w)∧sizedMet enc Tryz.prog Tryz.f4 (OpenSpec.ofChange Rows.promiseBytesSpec) false w args)
   (Rows.promiseBytesSpec.post enc Tryz.prog Tryz.f4 false true false false):=by
 refine returnsInHanded_of_change_and (C:=Tryz.checked) (X:=fun w _=>laidMetH Tryz.prog ov w) (fun _ _ _ hh h=>h.of_heap hh) own started (by kernel_rfl) Tryz.func4
  (ChangeSpec.witness_shaped (enc:=enc) (C:=Tryz.checked) (os:=os) (X:=fun w _=>laidMetH Tryz.prog ov w) false (World.doorLaid Tryz.prog 39 os) #[.slice none 0 0,.int .i64 0,.int .i64 0,.slice none 0 0] 8 rfl (World.shaped_of_RefB (by kernel_rfl) (by kernel_rfl)) (by kernel_rfl) (by kernel_rfl) (by kernel_rfl) (Dd os _)) ?_
 intro W base args ds gs before QQ hW _ _ hL _
 have hval: ∀(j:Nat) t v,Tryz.f4.params[j]? =some t→args[j]? =some v→Value.okWide Tryz.prog W .any base t v:=QQ
 have W6:=hW
 obtain ⟨p,q,hA0,hV,rfl,hfz,Uc⟩:=hW
 have hA:DataW.TrodAll enc Tryz.prog W 0 (fun _=>true) true Tryz.f4.params.toList args.toList ds p:=hA0
 rw [Tryz.params4] at hA hval
 obtain ⟨v0,v1,v2,v3,d0,d1,d2,d3,p0,p1,p2,p3,rfl,rfl,rfl,h0,h1,h2,h3⟩:=trodAll_four hA
 obtain ⟨rfl,rfl⟩:=trodVars_none hV
 obtain ⟨n,rfl,rfl,rfl,wn⟩:=open_int Tryz.underlying3 (hval 1 3 v1 rfl rfl) h1
 obtain ⟨m,rfl,rfl,rfl,wm⟩:=open_int Tryz.underlying3 (hval 2 3 v2 rfl rfl) h2
 have hB:=DP hL
 obtain ⟨l0,c0,i0,a0⟩:=CK hB Tryz.underlying22 Tryz.underlying3 c3 (hval 0 22 v0 rfl rfl) h0
 obtain ⟨l3,MO,i3,a3⟩:=CK hB Tryz.underlying70 Tryz.underlying5 c5 (hval 3 70 v3 rfl rfl) h3
 simp only [List.append_nil] at W6 hfz
 refine (Fe (f:=4) (n:=n) (m:=m) hL a0 a3 fun x y hx hy=> ?_).mono fun e W' ⟨he,hos,hout,hsz,hkeep⟩=>⟨_,he,?_⟩
 ·exact X.c4 hx (fun z hz=>bounds_i64 (a0.wf z hz)) (bounds_i64 wn) (bounds_i64 wm) hy (fun z hz=>bounds_u8 (a3.wf z hz)) rfl Ct (Nat.le_refl _)
 ·have hlt: ∀x∈p0++p3,x.block<W.heap.size:=fun x hx=>W6.lt x hx
  have hsame: ∀x∈p0++p3,W.sameAt W' x:=fun x hx=>by
   have hb:=hkeep _ (hlt x hx)
   cases x with
   |cell b o=>exact World.cell?_of_block (w:=W) hb
   |map b=>exact hb
  refine ⟨_,_,_, [],p0++([]++([]++p3)), [],W6,trodAll_mk1 (shut_bool Tryz.underlying4 _),?_,rfl,⟨hos,hout,fun i hi=> ?_⟩,fun h=>by cases h⟩
  ·exact trodAll_mk4 (WideElems.Trod_stays laidOut (by kernel_rfl) (of_decide_eq_true (by kernel_rfl)) h0 (fun x hx=>hsame x (by simp [hx])) (fun x hx=>by simpa using hlt x (by simp [hx]))) (shut_int Tryz.underlying3 wn) (shut_int Tryz.underlying3 wm)
    (WideElems.Trod_stays laidOut (by kernel_rfl) (of_decide_eq_true (by kernel_rfl)) h3 (fun x hx=>hsame x (by simp [hx])) (fun x hx=>by simpa using hlt x (by simp [hx])))
  ·rw [hkeep i hi]
   cases W.heap[i]? with
   |none=>rfl
   |some o=>cases o<;>first|exact ⟨rfl,rfl,rfl,fun _ _=>rfl⟩|exact .inr ⟨rfl,rfl⟩|rfl
theorem Fb:Rows.PromiseBytesSaid:=
 OpenClaim.holds_of_wide 4 Tryz.f4 rfl rfl rfl rfl rfl rfl rfl ⟨rfl,rfl,rfl,rfl,rfl⟩ rfl rfl rfl rfl rfl (by kernel_rfl) Tryz.func4 Q4
  (of_decide_eq_true (by kernel_rfl)) (by unfold Func.isWrapper;first|(rw [if_pos (by decide+kernel)];kernel_rfl)|(rw [if_neg (by decide+kernel)];exact ⟨rfl,rfl⟩))
  (fun os started H enc _=>lifted os started H enc)
end Go.Proofs.YtalmddmghdinkaaGreatDoor
end
section
namespace Go.Proofs.YtalmddmghdinkaaGreatDoor
open Go
set_option maxRecDepth 100000
theorem Kf {P:Program} {c:OpenClaim} (hst:c.start= .entering) (h:(P.funcs.toList.all fun f=> !f.goes)=true):false=c.goesBy P:=by
 have gh: ∀fn∈P.funcs.toList,fn.goes=false:=by
  intro fn hf;have:=List.all_eq_true.1 h fn hf;simpa using this
 have Xe:P.funcs.any Func.goes=false:=by
  rw [←Array.any_toList]
  rw [List.any_eq_false];intro x hx;simp [gh x hx]
 have hg: ∀f,P.goes f=false:=by
  intro f
  unfold Program.goes
  rw [Xe,Bool.and_false,Bool.or_false,List.any_eq_false]
  intro g _
  cases hfg:P.funcs[g]? with
  |none=>simp
  |some fn=>
   have:=gh fn (by rw [Array.mem_toList_iff];exact Array.mem_of_getElem? hfg)
   simp [this]
 unfold OpenClaim.goesBy Program.goesAt Program.goesFrom
 rw [hst]
 cases P.funcNamed c.func with
 |none=>rfl
 |some f=>simp [hg f]
theorem GL:(Tryz.prog.funcs.toList.all fun f=> !f.goes)=true:=by kernel_rfl
theorem oF:Rows.PromiseBytesCardSaid:=
 Claim7.holds_tied_plain_at .later [] [.funcsDeep,.funcs] true (true,"65530d9ec18ffe65f71d4a0d22e57b0c98ffb5bef8efc47813bb5cac28b07949") true
  Fb (fun _ h=>by cases h) (by kernel_rfl) (fun _ h=>by cases h) promiseBytes_row_tie rfl ⟨rfl,rfl⟩ (by kernel_rfl) rfl
  (fun f fn hf hfn=>by
   obtain rfl:f=4:=Option.some.inj ((show Tryz.prog.funcNamed "gantry/gantrylaw33.PromiseBytes" =some 4 by kernel_rfl).symm.trans hf) |>.symm
   obtain rfl:fn=Tryz.f4:=(Option.some.inj (Tryz.func4.symm.trans hfn)).symm
   exact ⟨by kernel_rfl,fun j t ht=>by
    rw [Tryz.params4] at ht
    have hm:t∈ [22,3,3,70]:=by simpa using Array.mem_of_getElem? ht
    have gh:([22,3,3,70].all fun u=> !Tryz.prog.wantsStandIn u)=true:=by kernel_rfl
    exact (show Tryz.prog.wantsStandIn t=false by simpa using List.all_eq_true.1 gh t hm)⟩)
  (Kf rfl GL)
theorem promiseBytes_holds:Rows.PromiseBytesCardSaid:=oF
end Go.Proofs.YtalmddmghdinkaaGreatDoor
end
