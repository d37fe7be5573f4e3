/-
  A part of the proof of PromiseBytes: lemmas, in short letters, printed by a program out of the longer texts; conditions: those that each lemma names.
-/
import Derived.Laws.BytesArg
import Derived.LoopNIn
import Derived.Scope
import Derived.Test.YtalmddmghdinkaaGreatDoorC
set_option linter.all false
set_option linter.deprecated false
noncomputable section
namespace Go.Vm
open Go
variable {ng:Nat} {T:Types} {B:Nat} {ι:bN} {D:Nat→Prop} {s s':St} {w w':World} {P:Program}
theorem yX (h:gW ng T ι D B s w) {te:TI} {y y':Value} (hD: ∀b i,b∈bC y→ι b=some i→D b) (hy:bj ι y y') {n:Nat} {l:List Value} (hi:items te s y=some (n,l)):
  l.length=n*te.size∧(∀w:World,(Builtin.lenOf y').run P w= .ok n w)∧ ∃news,bg ι l news∧ ∀k,k≤n→(Builtin.firstCells te.size k y').run P w= .ok (news.take (k*te.size)).toArray w:=by
 unfold items at hi
 split at hi
 ·simp at hi
  obtain ⟨rfl,rfl⟩:=hi
  cases hy
  exact ⟨by simp,fun _=>rfl, [],.nil,fun k hk=>by simp [Builtin.firstCells]⟩
 ·rename_i a n' c
  split at hi
  ·rename_i l' hr
   simp at hi
   obtain ⟨rfl,rfl⟩:=hi
   cases hy with
   |slice b o l c c' i hi' h1 h2=>
    obtain ⟨hlen,news,bZ,hc⟩:=h.read hr (hD _ _ (by simp [bC]) hi') hi'
    refine ⟨hlen,fun _=>rfl,news,bZ,fun k hk=> ?_⟩
    have hk':k*te.size≤n'*te.size:=Nat.mul_le_mul_right _ hk
    have hnl:=bZ.length
    refine run_firstCells_some w te.size k _ n' c' (news.take (k*te.size)) (by simp;omega) fun j u hu=> ?_
    rw [gm]
    rw [List.getElem?_take] at hu
    split at hu
    ·exact hc j u hu
    ·cases hu
   |eA a a' ie FT=>
    have:l'= []:=by
     unfold cW at hr
     split at hr
     ·split at hr
      ·simp at hr;exact hr
      ·cases hr
     ·cases hr
    subst this
    refine ⟨by simp,fun _=>rfl, [],.nil,fun k hk=> ?_⟩
    have vE:k=0:=by omega
    subst vE
    simpa using run_firstCells_some (P:=P) w te.size 0 a' 0 0 [] (by simp) (by simp)
  ·cases hi
 ·rename_i st
  split at hi
  ·rename_i h1
   have h1:=Nat.eq_of_beq_eq_true h1
   simp at hi
   obtain ⟨rfl,rfl⟩:=hi
   cases hy
   refine ⟨by rw [h1,rQ,byteCells_length,Nat.mul_one],fun _=>rfl,byteCells st,.bytes _,fun k hk=> ?_⟩
   simp only [Builtin.firstCells,Sem.run_pure,h1,Nat.mul_one]
   congr 1
   apply Array.ext'
   simp [byteCells,ByteArray.extract,ByteArray.copySlice,List.map_take]
   try (congr 1;omega)
  ·cases hi
 ·cases hi
theorem HX (hT:lG P T) (h:gW ng T ι D B s w) {t u ty e:Nat} {te:TI} (ht:P.underlying t=some (.slice e)) (ej:T.get e=some te)
  {x x' y y':Value} (IC: ∀b i,b∈bC x→ι b=some i→D b) (WI: ∀b i,b∈bC y→ι b=some i→D b) (hx:bj ι x x') (hy:bj ι y y') {v:Value} (hr:copyV te s x y=some (v,s')):
  ∃w',(Builtin.copy_ #[t,u] ty #[x',y']).run P w= .ok v w'∧bj ι v v∧bH ng T B ι D s w ι s' w':=by
 have jY:=hT e te ej
 have KZ: ∀(a:Addr),(loadCells a 0).run P w= .ok #[] w:=fun a=>by simpa using run_loadCells_list (P:=P) w a [] (by simp)
 unfold copyV at hr
 split at hr
 ·cases hx
  split at hr
  ·simp at hr;obtain ⟨rfl,rfl⟩:=hr
   cases hy
   exact ⟨w,by simp [Builtin.copy_,run_underlying ht,Builtin.lenOf,Builtin.firstCells,jY.run_sizeOf,goInt],.int _ _,bH.refl h rfl⟩
  ·simp at hr;obtain ⟨rfl,rfl⟩:=hr
   cases hy<;>exact ⟨w,by simp [Builtin.copy_,run_underlying ht,Builtin.lenOf,Builtin.firstCells,jY.run_sizeOf,goInt,KZ],.int _ _,bH.refl h rfl⟩
  ·simp at hr;obtain ⟨rfl,rfl⟩:=hr
   cases hy
   exact ⟨w,by simp [Builtin.copy_,run_underlying ht,Builtin.lenOf,Builtin.firstCells,jY.run_sizeOf,goInt],.int _ _,bH.refl h rfl⟩
  ·cases hr
 ·rename_i a len cap
  split at hr
  ·cases hr
  ·rename_i n l hit
   obtain ⟨hlen,hlo,news,bZ,KK⟩:=yX (P:=P) h WI hy hit
   have hnl:=bZ.length
   have main: ∀(a':Addr) (c':Nat) (m:Nat) (w':World),min n len=m→(storeCells a' (news.take (m*te.size))).run P w= .ok () w'→
     (Builtin.copy_ #[t,u] ty #[.slice (some a') len c',y']).run P w= .ok (.int .i64 m) w':=by
    intro a' c' m w' hm hst
    have hf:=KK (min n len) (Nat.min_le_left _ _)
    rw [hm] at hf
    have sN:Nat.min n len=m:=hm
    simp [Builtin.copy_,run_underlying ht,hlo,jY.run_sizeOf,sN,hf,hst,goInt]
   cases hm:min n len with
   |zero=>
    simp only [hm] at hr
    simp at hr;obtain ⟨rfl,rfl⟩:=hr
    cases hx with
    |slice b o l' c c' j hj h1 h2=>exact ⟨w,by simpa using main _ c' 0 w hm (by simp [storeCells]),.int _ _,bH.refl h rfl⟩
    |eA a a' ie FT=>exact ⟨w,by simpa using main a' 0 0 w hm (by simp [storeCells]),.int _ _,bH.refl h rfl⟩
   |succ m=>
    simp only [hm] at hr
    split at hr
    ·split at hr
     ·rename_i s₁ hw
      simp at hr
      obtain ⟨rfl,rfl⟩:=hr
      cases hx with
      |eA a a' ie FT=>simp at hm
      |slice b o l' c c' j hj h1 h2=>
       obtain ⟨g1,g2,g3,g4⟩:=h.store hw (IC _ _ (by simp [bC]) hj) hj (bZ.take _)
       have hst:=run_storeCells_cells (P:=P) j.r (j.o+o) (news.take ((m+1)*te.size)) 0 w (by simpa using g1) (by simpa using g2) g3
       exact ⟨_,by simpa using main _ c' (m+1) _ hm hst,.int _ _,g4⟩
     ·cases hr
    ·cases hr
 ·cases hr
theorem fq.length {es:List (Value×Value)} {ms:List MapEntry} (h:fq ι es ms):es.length=ms.length:=by
 induction es generalizing ms with
 |nil=>cases ms with
  |nil=>rfl
  |cons m ms=>exact h.elim
 |cons x es ih=>cases ms with
  |nil=>obtain ⟨a,b⟩:=x;exact h.elim
  |cons m ms=>obtain ⟨a,b⟩:=x;simp [ih h.2.2]
theorem EO {x x':Value} {l l':List Value} (hx:bj ι x x') (hl:bg ι l l') {v:Value} (w:World):(ju true x l=some v→(l'.foldlM Builtin.max2 x').run P w= .ok v w∧bj ι v v)∧
  (ju false x l=some v→(l'.foldlM Builtin.min2 x').run P w= .ok v w∧bj ι v v):=by
 induction l generalizing x x' l' with
 |nil=>
  cases hl
  cases hx<;>simp [ju]
  intro h;subst h;exact ⟨rfl,.int _ _⟩
 |cons y l ih=>
  cases hl with
  |cons _ y' _ l' hy hl=>
   cases hx<;>try (simp [ju];done)
   cases hy<;>try (simp [ju];done)
   rename_i k a k' b
   constructor
   ·intro h
    simp only [ju] at h
    have:=(ih (.int _ _) hl).1 h
    refine ⟨?_,this.2⟩
    simp only [List.foldlM_cons,Sem.run_bind,Builtin.max2,Sem.run_pure,Result.andThen_ok]
    simpa using this.1
   ·intro h
    simp only [ju] at h
    have:=(ih (.int _ _) hl).2 h
    refine ⟨?_,this.2⟩
    simp only [List.foldlM_cons,Sem.run_bind,Builtin.min2,Sem.run_pure,Result.andThen_ok]
    simpa using this.1
theorem oL: ∀ {l:List Value} {bs:List UInt8},eH l=some bs→ ∃ns:List Int,l=ns.map (Value.int .u8)∧bs=ns.map fun n=>UInt8.ofNat n.toNat
 | [],bs,h=>by simp [eH] at h;subst h;exact ⟨[],rfl,rfl⟩
 |v::l,bs,h=>by
  unfold eH at h
  split at h
  ·rename_i h';cases h'
  ·rename_i n r h'
   cases h'
   split at h
   ·rename_i l' fg
    simp at h;subst h
    obtain ⟨ns,rfl,rfl⟩:=oL fg
    exact ⟨n::ns,rfl,rfl⟩
   ·cases h
  ·cases h
theorem bg.ints {k:IntKind} {ns:List Int} {l':List Value} (h:bg ι (ns.map (Value.int k)) l'):l'=ns.map (Value.int k):=by
 induction ns generalizing l' with
 |nil=>cases h;rfl
 |cons n ns ih=>cases h with
  |cons _ v' _ l' hv hl=>cases hv;rw [ih hl];rfl
theorem bH.JU (h:gW ng T ι D B s w) {cs cs' more:List Value} {e:Nat} (fz:Nat×Nat) (sl:Bool) (x:Nat) (hw:w'.heap=w.heap.push (.cells (cs'++more).toArray e fz)) (hc:bg ι cs cs')
  (hm:x*xC T e=more.length) (hfz:(cs'++more).length≤fz.1) (hx:sl=false→x=0) (hO:w'.os=w.os∧w'.output=w.output:=by exact ⟨rfl,rfl⟩):bH ng T B ι D s w (ι.add s.n ⟨w.heap.size,0,x⟩) (newObj s (.cells cs e sl true)) w':=by
 have hb:=h.base
 have hlen:=hc.length
 have hcell: ∀j,w'.cell? ⟨w.heap.size,j,none⟩=(cs'++more)[j]? :=fun j=>by simp [World.cell?,hw]
 refine bH.new h _ _ x hw ⟨by rw [hw];simp,fun j v hj=> ?_,fun j hj=> ?_,hx,fun _=>⟨hb,fun j hj=> ?_⟩,fun hf=>by simp at hf⟩ hO
 ·obtain ⟨v',ji,bZ⟩:=hc.get hj
  refine ⟨v',?_,bZ.mono (bN.pC h.lt _)⟩
  rw [Nat.zero_add,hcell]
  simp [List.getElem?_append_left (show j<cs'.length from (List.getElem?_eq_some_iff.1 ji).1),ji]
 ·rw [Nat.zero_add,hcell]
  simp at hj ⊢
  omega
 ·obtain ⟨lo,hi⟩:=fz
  simp only [List.length_append] at hfz hj
  simp only [World.frozen?,hw,Array.getElem?_push_size,Nat.zero_add]
  simp
  intro hlo
  omega
theorem yO (hT:lG P T) (h:gW ng T ι D B s w) {src dst:Nat} {x x':Value} (hD: ∀b i,b∈bC x→ι b=some i→D b) (hx:bj ι x x') {v:Value} (hr:df T src dst x s=some (v,s')):
  ∃ι' v' w',(Go.convert src dst x').run P w= .ok v' w'∧bj ι' v v'∧bH ng T B ι D s w ι' s' w':=by
 unfold df at hr
 split at hr
 ·rename_i k₁ _ _ _ k _ _ _ k₂ n hs hd
  cases hx
  simp at hr;obtain ⟨rfl,rfl⟩:=hr
  have BA:=(hT src _ hs).int rfl
  have gj:=(hT dst _ hd).int rfl
  exact ⟨ι,_,w,by simp [Go.convert,run_underlying BA,run_underlying gj,Conv.intToInt],.int _ _,bH.refl h rfl⟩
 ·rename_i st hs hd
  cases hx
  simp at hr;obtain ⟨rfl,rfl⟩:=hr
  have BA:=(hT src _ hs).string rfl
  have gj:=(hT dst _ hd).string rfl
  exact ⟨ι,_,w,by simp [Go.convert,run_underlying BA,run_underlying gj],.string _,bH.refl h rfl⟩
 ·rename_i e _ _ _ _ _ _ a len cap hs hd
  have BA:=(hT src _ hs).slice rfl
  have gj:=(hT dst _ hd).string rfl
  split at hr
  ·rename_i _ _ _ he
   have he':=(hT e _ he).int rfl
   split at hr
   ·simp at hr;obtain ⟨rfl,rfl⟩:=hr
    cases hx
    exact ⟨ι,_,w,run_convert_bytes_nil w src e BA he' _ _ dst gj,.string _,bH.refl h rfl⟩
   ·rename_i a
    split at hr
    ·rename_i l hl
     split at hr
     ·rename_i bs Hp
      simp at hr;obtain ⟨rfl,rfl⟩:=hr
      obtain ⟨ns,rfl,rfl⟩:=oL Hp
      refine ⟨ι,.string (strOfNums ns),w,?_,?_,bH.refl h rfl⟩
      ·cases hx with
       |slice b o l' c c' j hj h1 h2=>
        obtain ⟨hlen,news,bZ,hc⟩:=h.read hl (hD _ _ (by simp [bC]) hj) hj
        have hnews:=bZ.ints
        subst hnews
        refine run_convert_bytes_arg w src e BA he' j.r (j.o+o) len c' ns (by simpa using hlen) (fun i hi=> ?_) dst gj
        have hi':i<ns.length:=by
         have:ns.length=len:=by simpa using hlen
         omega
        refine hc i _ ?_
        simp [List.getElem?_eq_getElem hi',List.getD]
       |eA a a' ie FT=>
        have IN:ns= []:=by
         unfold cW at hl
         split at hl
         ·split at hl
          ·simp at hl;exact hl
          ·cases hl
         ·cases hl
        subst IN
        rw [run_convert_bytes_string w src dst e _ 0 0 BA he' gj,run_bytesToString w a' 0 0 [] (by simpa using run_loadCells_list (P:=P) w a' [] (by simp))]
        rfl
      ·exact .string _
     ·cases hr
    ·cases hr
  ·cases hr
 ·rename_i e _ _ _ st hs hd
  have BA:=(hT src _ hs).string rfl
  have gj:=(hT dst _ hd).slice rfl
  split at hr
  ·rename_i _ _ _ he
   have jY:=hT e _ he
   have he':=jY.int rfl
   split at hr
   rotate_left
   ·cases hr
   rename_i hone
   have hone:=Nat.eq_of_beq_eq_true hone
   simp at hr;obtain ⟨rfl,rfl⟩:=hr
   cases hx
   have Ht:st.size≤grownCap w st.size 0 e:=grownCap_ge w st.size 0 e
   have hsz:xC T e=1:=by
    rw [qL he]
    exact hone
   have hcells:((st.data.map fun b=>Value.int .u8 b.toNat)++Array.replicate (grownCap w st.size 0 e - st.size) (.int .u8 0))=(byteCells st++List.replicate (grownCap w st.size 0 e - st.size) (Value.int .u8 0)).toArray:=by
    apply Array.ext'
    simp [byteCells]
   have Qd: ∀c:Array Value,(w.drew.alloc (.cells c e)).freeze ⟨w.heap.size,c.size,none⟩ 1= { w.drew with heap:=w.heap.push (.cells c e (c.size,c.size+1)) } :=by
    intro c
    simp only [World.freeze,World.alloc,World.drew]
    simp
    apply Array.ext_getElem?
    intro j
    simp only [Array.getElem?_modify,Array.getElem?_push]
    by_cases hj:j=w.heap.size
    ·subst hj;simp
    ·simp [hj,Ne.symm hj]
   have kV:=bH.JU (s:=s) (e:=e) (cs:=ofBytes st.data.toList) (cs':=byteCells st) (more:=List.replicate (grownCap w st.size 0 e - st.size) (Value.int .u8 0)) h
    ((byteCells st++List.replicate (grownCap w st.size 0 e - st.size) (Value.int .u8 0)).toArray.size,(byteCells st++List.replicate (grownCap w st.size 0 e - st.size) (Value.int .u8 0)).toArray.size+1) true
    (grownCap w st.size 0 e - st.size) (w':= { w.drew with heap:=w.heap.push (.cells (byteCells st++List.replicate (grownCap w st.size 0 e - st.size) (Value.int .u8 0)).toArray e
     ((byteCells st++List.replicate (grownCap w st.size 0 e - st.size) (Value.int .u8 0)).toArray.size,(byteCells st++List.replicate (grownCap w st.size 0 e - st.size) (Value.int .u8 0)).toArray.size+1)) }) rfl (.bytes _) (by rw [hsz];simp) (by simp) (fun hf=>by simp at hf)
   refine ⟨_,.slice (some ⟨w.heap.size,0,none⟩) st.size (grownCap w st.size 0 e),_,?_,?_,kV⟩
   ·rw [←Qd]
    have hch:(choose (.appendCap st.size 0 e)).run P w= .ok (grownCap w st.size 0 e) w.drew:=by rw [run_choose];simp only [Question.forced,Bool.false_eq_true,if_false];rfl
    have Lh: ∀c:Array Value,(w.drew.alloc (.cells c e)).shape? w.heap.size=some (e,c.size):=fun c=>by
     have:(w.drew.alloc (.cells c e)).heap[w.heap.size]? =some (.cells c e):=World.alloc_heap_new w.drew _
     simp only [World.shape?,this]
    simp only [Go.convert,Sem.run_bind,run_underlying BA,run_underlying gj,Result.andThen_ok,run_underlying he',Conv.stringToBytes,hch,newRow,run_newObj_alloc,Sem.run_pure,hcells,markStringish,run_shape]
    have P5:w.drew.heap.size=w.heap.size:=rfl
    rw [P5,Lh]
    simp
   ·exact .slice s.n 0 _ _ _ _ (bN.add_same _ _ _) Ht (by simp;omega)
  ·cases hr
 ·cases hr
end Go.Vm
end
noncomputable section
namespace Go.Vm
open Go
variable {ng:Nat} {T:Types} {B:Nat} {ι:bN} {D:Nat→Prop} {s s':St} {w w':World} {P:Program}
def gJ (ι:bN) (D:Nat→Prop):Reach→Prop
 |none=> ∀b i,ι b=some i→D b
 |some l=> ∀b i,b∈l→ι b=some i→D b
def Cx (ng:Nat) (T:Types) (B:Nat) (ι:bN) (D:Nat→Prop) (P:Program) (s:St) (w:World) (UG:Sem Next):jL×St→Prop
 |(.val v,s')=> ∃ι' v' w',(UG.run P w= .ok (.value v') w'∨(UG.run P w= .ok .skip w'∧v'=undef))∧bj ι' v v'∧bH ng T B ι D s w ι' s' w'
 |(.call f args,s')=>s'=s∧ ∃args':Array Value,bg ι args args'.toList∧UG.run P w=(callFunc f args').run P w
 |(.round l args,s')=>s'=s∧ ∃i,∃args':Array Value,ι l=some i∧bg ι args args'.toList∧UG.run P w=(Instr.yield i.r args').run P w
theorem bg.map {ρ ρ':Operand→Value} : ∀ {l:List Operand},(∀x∈l,bj ι (ρ x) (ρ' x))→bg ι (l.map ρ) (l.map ρ')
 | [],_=> .nil
 |x::l,h=> .cons _ _ _ _ (h x (by simp)) (bg.map fun y hy=>h y (by simp [hy]))
theorem lF.map {ρ ρ':Operand→Value} : ∀ {l:List (Nat×Operand)},(∀x∈l,bj ι (ρ x.2) (ρ' x.2))→lF ι (l.map fun p=>(p.1,ρ p.2)) (l.map fun p=>(p.1,ρ' p.2))
 | [],_=>trivial
 |x::l,h=>⟨rfl,h x (by simp),lF.map fun y hy=>h y (by simp [hy])⟩
theorem yN (hT:lG P T) (h:gW ng T ι D B s w) (b:Builtin) (ts:Array Nat) (ty:Nat) (cs:Array Bool) {args:List Value} {args':Array Value} (ha:bg ι args args'.toList)
  (hD: ∀b i,b∈args.flatMap bC→ι b=some i→D b) {r:jL×St} (hr:bI T b ts.toList args s=some r):
  Cx ng T B ι D P s w (Go.builtin b ts ty cs args') r:=by
 have mj: ∀ {o:Option (Value×St)} {r:jL×St},two o=some r→ ∃v s',o=some (v,s')∧r=(.val v,s'):=by
  intro o r h
  cases o with
  |none=>cases h
  |some x=>obtain ⟨v,s'⟩:=x;simp [two] at h;exact ⟨v,s',rfl,h.symm⟩
 obtain ⟨ts⟩:=ts
 obtain ⟨args'⟩:=args'
 unfold bI at hr
 split at hr
 ·
  rename_i t x hts
  simp only [] at hts
  subst hts
  cases ha with|cons _ x' _ _ hx ha=>cases ha with|nil=>
  split at hr
  ·rename_i _ _ _ st ht
   have hu:=(hT t _ ht).string rfl
   simp at hr;subst hr
   cases hx
   exact ⟨ι,_,w,.inl (by simp [Go.builtin,Builtin.len_,run_underlying hu,goInt]),.int _ _,bH.refl h rfl⟩
  ·rename_i n _ _ _ _ _ ht
   have hu:=(hT t _ ht).array rfl
   simp at hr;subst hr
   exact ⟨ι,_,w,.inl (by simp [Go.builtin,Builtin.len_,run_underlying hu,goInt]),.int _ _,bH.refl h rfl⟩
  ·rename_i _ _ _ _ a n c ht
   have hu:=(hT t _ ht).slice rfl
   simp at hr;subst hr
   cases hx<;>exact ⟨ι,_,w,.inl (by simp [Go.builtin,Builtin.len_,run_underlying hu,goInt]),.int _ _,bH.refl h rfl⟩
  ·rename_i _ _ _ _ _ ht
   have hu:=(hT t _ ht).map rfl
   simp at hr;subst hr
   cases hx
   exact ⟨ι,_,w,.inl (by simp [Go.builtin,Builtin.len_,run_underlying hu,goInt]),.int _ _,bH.refl h rfl⟩
  ·rename_i _ _ _ _ _ b ht
   have hu:=(hT t _ ht).map rfl
   split at hr
   ·rename_i es own hb
    simp at hr;subst hr
    cases hx with
    |map _ i hi=>
     have ho:=h.obj b _ i (hD _ _ (by simp [bC]) hi) hb hi
     obtain ⟨ms,clock,D6,l,hp,hx⟩:=ho.there
     have hg:(getObj i.r).run P w= .ok (.map ms clock) w:=by simp [getObj,Sem.run,D6]
     have hlen:es.length=ms.size:=by
      rw [hp.length,←Array.length_toList]
      rcases hx with rfl|⟨_,hx,_⟩
      ·rfl
      ·exact hx.length_eq
     exact ⟨ι,_,w,.inl (by simp [Go.builtin,Builtin.len_,run_underlying hu,goInt,hg];rfl),by rw [hlen];exact .int _ _,bH.refl h rfl⟩
   ·cases hr
  ·cases hr
 ·
  rename_i t x hts
  simp only [] at hts
  subst hts
  cases ha with|cons _ x' _ _ hx ha=>cases ha with|nil=>
  split at hr
  ·rename_i _ _ _ _ n c ht
   have hu:=(hT t _ ht).slice rfl
   simp at hr;subst hr
   cases hx
   exact ⟨ι,_,w,.inl (by simp [Go.builtin,Builtin.cap_,run_underlying hu,goInt]),.int _ _,bH.refl h rfl⟩
  ·rename_i _ _ _ _ a n c ht
   have hu:=(hT t _ ht).slice rfl
   split at hr
   ·rename_i cs' e' own hb
    simp at hr;subst hr
    cases hx with
    |slice b o l c c' i hi h1 h2=>
     have ho:=h.obj b _ i (hD _ _ (by simp [bC]) hi) hb hi
     have:=ho.tight rfl
     have e:c'=c:=by rw [this] at h2;omega
     subst e
     exact ⟨ι,_,w,.inl (by simp [Go.builtin,Builtin.cap_,run_underlying hu,goInt]),.int _ _,bH.refl h rfl⟩
    |eA a a' ie FT=>exact ⟨ι,_,w,.inl (by simp [Go.builtin,Builtin.cap_,run_underlying hu,goInt]),.int _ _,bH.refl h rfl⟩
   ·cases hr
  ·cases hr
 ·
  rename_i t u x y hts
  simp only [] at hts
  subst hts
  cases ha with|cons _ x' _ _ hx ha=>cases ha with|cons _ y' _ _ hy ha=>cases ha with|nil=>
  split at hr
  ·rename_i e _ _ _ e' _ _ _ ht hu
   split at hr
   ·rename_i te a n c ej
    obtain ⟨v,s',hv,rfl⟩:=mj hr
    have xT:=(hT u _ hu).slice rfl
    obtain ⟨ι',v',w',h1,h2,h3⟩:=tE (P:=P) (ty:=ty) hT h ((hT t _ ht).slice rfl) ej (fun b i hb=>hD b i (by simp [hb])) (fun b i hb=>hD b i (by simp [hb])) hx hy (.inl ⟨e',xT⟩) (fun st e=>by cases e) (fun _ _ _ _=>⟨e',xT⟩) hv
    exact ⟨ι',v',w',.inl (by simp [Go.builtin,h1]),h2,h3⟩
   ·cases hr
  ·rename_i e _ _ _ _ _ _ ht hu
   split at hr
   ·rename_i te st ej
    obtain ⟨v,s',hv,rfl⟩:=mj hr
    have xT:=(hT u _ hu).string rfl
    obtain ⟨ι',v',w',h1,h2,h3⟩:=tE (P:=P) (ty:=ty) hT h ((hT t _ ht).slice rfl) ej (fun b i hb=>hD b i (by simp [hb])) (fun b i hb=>hD b i (by simp [hb])) hx hy (.inr xT) (fun _ _=>xT) (fun a b c e=>by cases e) hv
    exact ⟨ι',v',w',.inl (by simp [Go.builtin,h1]),h2,h3⟩
   ·cases hr
  ·rename_i e _ _ _ k _ _ _ ht hu
   split at hr
   ·rename_i te ej
    obtain ⟨v,s',hv,rfl⟩:=mj hr
    obtain ⟨ι',v',w',h1,h2,h3⟩:=ES (P:=P) (ty:=ty) hT h ((hT t _ ht).slice rfl) ej ((hT u _ hu).int rfl) hx hy hv
    exact ⟨ι',v',w',.inl (by simp [Go.builtin,h1]),h2,h3⟩
   ·cases hr
  ·cases hr
 ·
  rename_i t u x y hts
  simp only [] at hts
  subst hts
  cases ha with|cons _ x' _ _ hx ha=>cases ha with|cons _ y' _ _ hy ha=>cases ha with|nil=>
  split at hr
  ·rename_i e _ _ _ ht
   split at hr
   ·rename_i te ej
    obtain ⟨v,s',hv,rfl⟩:=mj hr
    obtain ⟨w',h1,h2,h3⟩:=HX (P:=P) (ty:=ty) (u:=u) hT h ((hT t _ ht).slice rfl) ej (fun b i hb=>hD b i (by simp [hb])) (fun b i hb=>hD b i (by simp [hb])) hx hy hv
    exact ⟨ι,v,w',.inl (by simp [Go.builtin,h1]),h2,h3⟩
   ·cases hr
  ·cases hr
 ·
  rename_i x l
  cases ha with|cons _ x' _ l' hx ha=>
  unfold one at hr
  split at hr
  ·rename_i v hv
   simp at hr;subst hr
   obtain ⟨h1,h2⟩:=(EO (P:=P) hx ha w).1 hv
   exact ⟨ι,v,w,.inl (by simp [Go.builtin,Builtin.max_,h1]),h2,bH.refl h rfl⟩
  ·cases hr
 ·rename_i x l
  cases ha with|cons _ x' _ l' hx ha=>
  unfold one at hr
  split at hr
  ·rename_i v hv
   simp at hr;subst hr
   obtain ⟨h1,h2⟩:=(EO (P:=P) hx ha w).2 hv
   exact ⟨ι,v,w,.inl (by simp [Go.builtin,Builtin.min_,h1]),h2,bH.refl h rfl⟩
  ·cases hr
 ·cases hr
theorem ny.map {ρ ρ':Operand→Value} {o:Option Operand} (h: ∀x,o=some x→bj ι (ρ x) (ρ' x)):ny ι (o.map ρ) (o.map ρ'):=by
 cases o with
 |none=>trivial
 |some x=>exact h x rfl
theorem jG {o:Option Value} {r:jL×St} (h:one o s=some r): ∃v,o=some v∧r=(.val v,s):=by
 cases o with
 |none=>cases h
 |some v=>simp [one] at h;exact ⟨v,rfl,h.symm⟩
theorem mj {o:Option (Value×St)} {r:jL×St} (h:two o=some r): ∃v s',o=some (v,s')∧r=(.val v,s'):=by
 cases o with
 |none=>cases h
 |some x=>obtain ⟨v,s'⟩:=x;simp [two] at h;exact ⟨v,s',rfl,h.symm⟩
theorem xE {o:Option St} {r:jL×St} (h:three o=some r): ∃s',o=some s'∧r=(.val undef,s'):=by
 cases o with
 |none=>cases h
 |some x=>simp [three] at h;exact ⟨x,rfl,h.symm⟩
theorem kA (hT:lG P T) (h:gW ng T ι D B s w) (o:Oper) {ρ ρ':Operand→Value} (hρ: ∀x∈o.op.operands,bj ι (ρ x) (ρ' x)) (hD:gJ ι D (ag ρ o.op)) {r:jL×St}
  (hr:evalOp T ρ s o.op=some r):Cx ng T B ι D P s w (execOp ρ' o) r:=by
 obtain ⟨dst,op,ty,pos,after,guard⟩:=o
 have me: ∀ {v v'},bj ι v v'→(execOp ρ' ⟨dst,op,ty,pos,after,guard⟩).run P w= .ok (.value v') w→Cx ng T B ι D P s w (execOp ρ' ⟨dst,op,ty,pos,after,guard⟩) (.val v,s):=
  fun {v v'} hv he=>⟨ι,v',w,.inl he,hv,bH.refl h rfl⟩
 simp only [] at hρ hD hr
 cases op<;>simp only [evalOp] at hr<;>try (cases hr;done)
 case move x=>
  simp at hr;subst hr
  exact me (hρ x (by simp [Op.operands])) (by simp [execOp])
 case assign x=>
  simp at hr;subst hr
  exact me (hρ x (by simp [Op.operands])) (by simp [execOp])
 case pick c a b=>
  have hc:=hρ c (by simp [Op.operands])
  have ha:=hρ a (by simp [Op.operands])
  have hb:=hρ b (by simp [Op.operands])
  split at hr
  ·rename_i e
   simp at hr;subst hr
   rw [e] at hc
   generalize lu:ρ' c=c' at hc
   cases hc
   exact me ha (by simp [execOp,lu,asBool])
  ·rename_i e
   simp at hr;subst hr
   rw [e] at hc
   generalize lu:ρ' c=c' at hc
   cases hc
   exact me hb (by simp [execOp,lu,asBool])
  ·cases hr
 case alloc t=>
  split at hr
  ·rename_i ti ht
   simp [two] at hr;subst hr
   obtain ⟨ι',v',w',h1,h2,h3⟩:=EK (P:=P) hT h ht (r:=(eS s (bc ti.zero) t false).1) (s':=(eS s (bc ti.zero) t false).2) rfl
   exact ⟨ι',v',w',.inl (by simp [execOp,h1]),h2,h3⟩
  ·cases hr
 case box t x=>
  simp [two] at hr;subst hr
  obtain ⟨ι',v',w',h1,h2,h3⟩:=LJ (P:=P) h (t:=t) (hρ x (by simp [Op.operands])) (r:=(eS s (bc (ρ x)) t false).1) (s':=(eS s (bc (ρ x)) t false).2) rfl
  exact ⟨ι',v',w',.inl (by simp [execOp,h1]),h2,h3⟩
 case build t ps=>
  obtain ⟨v,hv,rfl⟩:=jG hr
  have hp:lF ι (pairs ρ ps) ((ps.map fun (i,x)=>(i,ρ' x)).toList):=by
   simp only [pairs,Array.toList_map]
   exact lF.map fun x hx=>hρ x.2 (by simp [Op.operands];exact ⟨x.1,by simpa using hx⟩)
  obtain ⟨v',h1,h2⟩:=EL (P:=P) hT hp hv w
  exact me h2 (by simp [execOp,h1])
 case buildSlice t len ps=>
  obtain ⟨v,s',hv,rfl⟩:=mj hr
  have hp:lF ι (pairs ρ ps) ((ps.map fun (i,x)=>(i,ρ' x)).toList):=by
   simp only [pairs,Array.toList_map]
   exact lF.map fun x hx=>hρ x.2 (by simp [Op.operands];exact ⟨x.1,by simpa using hx⟩)
  obtain ⟨ι',v',w',h1,h2,h3⟩:=sS (P:=P) hT h hp hv
  exact ⟨ι',v',w',.inl (by simp [execOp,h1]),h2,h3⟩
 case load t a=>
  have ha:=hρ a (by simp [Op.operands])
  split at hr
  ·rename_i ti p ht hp
   obtain ⟨v,hv,rfl⟩:=jG hr
   rw [hp] at ha
   simp only [ag,hp,bC,gJ] at hD
   have hD:D p.block:=by
    generalize ρ' a=q at ha
    cases ha with
    |ptr b o i hi=>exact hD _ i (by simp) hi
   obtain ⟨v',h1,h2⟩:=Aw (P:=P) hT h ht ha hD hv
   exact me h2 (by simp [execOp,h1])
  ·cases hr
 case store t a x=>
  have ha:=hρ a (by simp [Op.operands])
  have hx:=hρ x (by simp [Op.operands])
  split at hr
  ·rename_i ti p ht hp
   obtain ⟨s',hv,rfl⟩:=xE hr
   rw [hp] at ha
   simp only [ag,hp,bC,gJ] at hD
   have hD:D p.block:=by
    generalize ρ' a=q at ha
    cases ha with
    |ptr b o i hi=>exact hD _ i (by simp) hi
   obtain ⟨w',h1,h2⟩:=ER (P:=P) hT h ht ha hD hx hv
   exact ⟨ι,undef,w',.inr ⟨by simp [execOp,h1],rfl⟩,.undef _,h2⟩
  ·cases hr
 case nilCheck x=>
  have hx:=hρ x (by simp [Op.operands])
  split at hr
  all_goals first
   |(cases hr;done)
   |(
    rename_i e
    simp at hr;subst hr
    rw [e] at hx
    generalize hxx:ρ' x=x' at hx
    have hx':=hx
    cases hx
    exact me hx' (by simp [execOp,hxx]))
 case binOp op t x y yt=>
  obtain ⟨v,hv,rfl⟩:=jG hr
  obtain ⟨h1,h2⟩:=LI (P:=P) hT (hρ x (by simp [Op.operands])) (hρ y (by simp [Op.operands])) hv x y w
  exact me h2 (by
   simp only [execOp,Sem.run_bind] at h1 ⊢
   rw [h1];rfl)
 case unOp op t x=>
  obtain ⟨v,hv,rfl⟩:=jG hr
  obtain ⟨h1,h2⟩:=Ry (P:=P) (hρ x (by simp [Op.operands])) hv w
  exact me h2 (by simp [execOp,h1])
 case convert a b x=>
  obtain ⟨v,s',hv,rfl⟩:=mj hr
  obtain ⟨ι',v',w',h1,h2,h3⟩:=yO (P:=P) hT h (by simpa only [ag,gJ] using hD) (hρ x (by simp [Op.operands])) hv
  exact ⟨ι',v',w',.inl (by simp [execOp,h1]),h2,h3⟩
 case makeFunc fn first captured=>
  split at hr
  ·rename_i f
   simp at hr;subst hr
   have e1:first.map ρ'=⟨first.toList.map ρ'⟩:=by apply Array.ext';simp
   have e2:captured.map ρ'=⟨captured.toList.map ρ'⟩:=by apply Array.ext';simp
   exact me (v':= .func (.func f) ⟨first.toList.map ρ'⟩ ⟨captured.toList.map ρ'⟩) (.func _ _ _ _ _
     (bg.map fun x hx=>hρ x (by simp [Op.operands];exact .inl (by simpa using hx)))
     (bg.map fun x hx=>hρ x (by simp [Op.operands];exact .inr (by simpa using hx)))) (by
      simp only [execOp,Instr.makeFunc,Sem.run_bind,Sem.run_pure,Result.andThen_ok,e1,e2])
  ·cases hr
 case makeMap t r=>
  split at hr
  ·rename_i k v _ _ _ ht
   simp [two] at hr;subst hr
   obtain ⟨ι',v',w',h1,h2,h3⟩:=yQ (P:=P) h t
   exact ⟨ι',v',w',.inl (by simp [execOp,h1]),h2,h3⟩
  ·cases hr
 case makeSlice t l c=>
  obtain ⟨v,s',hv,rfl⟩:=mj hr
  obtain ⟨ι',v',w',h1,h2,h3⟩:=uV (P:=P) hT h (hρ l (by simp [Op.operands])) (hρ c (by simp [Op.operands])) hv
  exact ⟨ι',v',w',.inl (by simp [execOp,h1]),h2,h3⟩
 case slice t x lo hi mx=>
  have hx:=hρ x (by simp [Op.operands])
  have hlo:ny ι (lo.map ρ) (lo.map ρ'):=ny.map fun y hy=>hρ y (by simp [Op.operands,hy])
  have nF:ny ι (hi.map ρ) (hi.map ρ'):=ny.map fun y hy=>hρ y (by simp [Op.operands,hy])
  have rA:ny ι (mx.map ρ) (mx.map ρ'):=ny.map fun y hy=>hρ y (by simp [Op.operands,hy])
  split at hr
  ·cases hr
  ·rename_i hno
   obtain ⟨v,hv,rfl⟩:=jG hr
   obtain ⟨v',h1,h2⟩:=EP (P:=P) hT hx hlo nF rA (fun e=>by
    cases hi with
    |some y=>simp at e
    |none=>cases mx with
     |none=>rfl
     |some y=>exact absurd rfl (hno y rfl)) hv w
   exact me h2 (by simp [execOp,h1])
 case fieldAddr t x f=>
  obtain ⟨v,hv,rfl⟩:=jG hr
  obtain ⟨v',h1,h2⟩:=uT (P:=P) hT (hρ x (by simp [Op.operands])) hv w
  exact me h2 (by simp [execOp,h1])
 case field t x f=>
  obtain ⟨v,hv,rfl⟩:=jG hr
  obtain ⟨v',h1,h2⟩:=EM (P:=P) hT (hρ x (by simp [Op.operands])) hv w
  exact me h2 (by simp [execOp,h1])
 case indexAddr t x i=>
  obtain ⟨v,hv,rfl⟩:=jG hr
  obtain ⟨v',h1,h2⟩:=uU (P:=P) hT (hρ x (by simp [Op.operands])) (hρ i (by simp [Op.operands])) hv w
  exact me h2 (by simp [execOp,h1])
 case index t x i=>
  obtain ⟨v,hv,rfl⟩:=jG hr
  obtain ⟨v',h1,h2⟩:=EN (P:=P) hT (hρ x (by simp [Op.operands])) (hρ i (by simp [Op.operands])) hv w
  exact me h2 (by simp [execOp,h1])
 case lookup t x i ok=>
  obtain ⟨v,hv,rfl⟩:=jG hr
  obtain ⟨v',h1,h2⟩:=BI (P:=P) hT h (hρ x (by simp [Op.operands])) (hρ i (by simp [Op.operands])) (fun r e=>by
   simp only [ag,e,bC,gJ] at hD
   have hx:=hρ x (by simp [Op.operands])
   rw [e] at hx
   generalize ρ' x=q at hx
   cases hx with
   |map _ i hi=>exact hD _ i (by simp) hi) hv
  exact me h2 (by simp [execOp,h1])
 case mapUpdate t m k v=>
  obtain ⟨s',hv,rfl⟩:=xE hr
  obtain ⟨w',h1,h2⟩:=BJ (P:=P) hT h (hρ m (by simp [Op.operands])) (hρ k (by simp [Op.operands])) (hρ v (by simp [Op.operands])) (fun r e=>by
   simp only [ag,e,bC,gJ] at hD
   have hx:=hρ m (by simp [Op.operands])
   rw [e] at hx
   generalize ρ' m=q at hx
   cases hx with
   |map _ i hi=>exact hD _ i (by simp) hi) hv
  exact ⟨ι,undef,w',.inr ⟨by simp [execOp,h1],rfl⟩,.undef _,h2⟩
 case extract t i=>
  have hx:=hρ t (by simp [Op.operands])
  split at hr
  ·rename_i vs e
   split at hr
   ·rename_i v r' hd
    simp at hr;subst hr
    obtain ⟨v',h1,h2⟩:=yP (P:=P) hx e hd w
    exact me h2 (by simp [execOp,h1])
   ·cases hr
  ·cases hr
 case call c=>
  obtain ⟨callee,args,ats⟩:=c
  cases callee with
  |invoke a b=>simp [dG] at hr
  |builtin b=>
   simp only [dG] at hr
   have ha:bg ι (args.toList.map ρ) (args.map ρ').toList:=by
    rw [Array.toList_map]
    exact bg.map fun x hx=>hρ x (by simp [Op.operands,Call.operands];simpa using hx)
   have:=yN (P:=P) hT h b ats ty (args.map fun| .const _=>true|_=>false) ha (by
    simp only [ag,gJ] at hD
    intro b i hb
    exact hD b i (by rw [List.flatMap_map] at hb;exact hb)) hr
   exact this
  |value f=>
   simp only [dG] at hr
   have hf:=hρ f (by simp [Op.operands,Call.operands])
   have ha:bg ι (args.toList.map ρ) (args.map ρ').toList:=by
    rw [Array.toList_map]
    exact bg.map fun x hx=>hρ x (by simp [Op.operands,Call.operands];exact .inr (by simpa using hx))
   split at hr
   ·rename_i g first captured e
    simp at hr;subst hr
    rw [e] at hf
    generalize yz:ρ' f=f' at hf
    cases hf with
    |func _ a a' b b' h1 h2=>
     refine ⟨rfl,(⟨a'⟩:Array Value)++args.map ρ'++⟨b'⟩,?_,?_⟩
     ·have:=h1.append (ha.append h2)
      simpa using this
     ·simp [execOp,resolve,yz,Deferred.ofValue,invoke]
   ·rename_i l first captured e
    simp at hr;subst hr
    rw [e] at hf
    generalize yz:ρ' f=f' at hf
    cases hf with
    |yield _ i hi=>
     refine ⟨rfl,i,args.map ρ',hi,by simpa using ha,?_⟩
     simp [execOp,resolve,yz,Deferred.ofValue,invoke]
   ·cases hr
end Go.Vm
end
noncomputable section
namespace Go.Vm
open Go
variable {ng:Nat} {T:Types} {B:Nat} {ι ι' ua:bN} {D D₂:Nat→Prop} {s s' tR:St} {w w' w'':World} {P:Program}
theorem gW.weaken (h:gW ng T ι D B s w) (hd: ∀b i,ι b=some i→D₂ b→D b):gW ng T ι D₂ B s w:=
 ⟨fun b o i hb ho hi=>h.obj b o i (hd b i hi hb) ho hi,fun b b' o o' i i' hb gY ho mC hl fg hi hi' e=>h.inj b b' o o' i i' (hd b i hi hb) (hd b' i' hi' gY) ho mC hl fg hi hi' e,h.lt,h.base⟩
theorem bH.yd (h:bH ng T B ι D s w ι' s' w') (hd: ∀b i,ι b=some i→(D b↔D₂ b)):bH ng T B ι D₂ s w ι' s' w':=by
 have key: ∀b i,ι' b=some i→(D₂ b∨s.n≤b)→(D b∨s.n≤b):=fun b i hi IQ=>by
  rcases h.zy b i hi with h1|h1
  ·rcases IQ with h2|h2
   ·exact .inl ((hd b i h1).2 h2)
   ·exact .inr h2
  ·exact .inr h1
 refine ⟨h.le,h.zy,h.lz.weaken key,h.n,h.wm,h.Ap,fun r hr hno=>h.mY r hr fun b i o hb hi=>hno b i o ((hd b i hi).1 hb) hi,fun b i o hb hi ho hl=> ?_,h.size,h.out⟩
 rcases h.jW b i o (key b i hi hb) hi ho hl with h1|⟨b₀,i₀,o₀,h1,h2,h3⟩
 ·exact .inl h1
 ·exact .inr ⟨b₀,i₀,o₀,(hd b₀ i₀ h2).1 h1,h2,h3⟩
theorem bH.full (h:bH ng T B ι (Full ι) s w ι' s' w'):gW ng T ι' (Full ι') B s' w':=
 h.lz.weaken fun b i hi _=>(h.zy b i hi).imp (fun h=>⟨i,h⟩) id
theorem bH.seq (h:bH ng T B ι (Full ι) s w ι' s' w') (h':bH ng T B ι' (Full ι') s' w' ua tR w''):bH ng T B ι (Full ι) s w ua tR w'':=
 h.trans (h'.yd fun b i hi=>⟨fun _=>(h.zy b i hi).imp (fun h=>⟨i,h⟩) id,fun _=>⟨i,hi⟩⟩)
theorem gW.IA (h:gW ng T ι (Full ι) B s w) (hd: ∀b i,ι b=some i→D b): ∀b i,ι b=some i→(Full ι b↔D b):=fun b i hi=>⟨fun _=>hd b i hi,fun _=>⟨i,hi⟩⟩
theorem gW.wm (h:gW ng T ι D B s w) (k:Nat):gW ng T ι D B { s with wm:=k } w:=⟨h.obj,h.inj,h.lt,h.base⟩
theorem bH.FE (h:bH ng T B ι D { s with wm:=s.n } w ι' s' w') (hs:s.wm≤s.wm):bH ng T B ι D s w ι' { s' with wm:=min s.wm s'.wm } w':=by
 refine ⟨h.le,h.zy,h.lz.wm _,h.n,Nat.min_le_left _ _,fun b hb hm=>h.Ap b hb (by simp at hm;omega),fun r hr hno=>h.mY r hr fun b i o hb hi ho hl hle=>hno b i o hb hi ho hl (by simp;omega),fun b i o hb hi ho hl=> ?_,h.size,h.out⟩
 rcases h.jW b i o hb hi ho hl with h1|⟨b₀,i₀,o₀,h1,h2,h3,h4,h5,h6⟩
 ·exact .inl h1
 ·refine .inr ⟨b₀,i₀,o₀,h1,h2,h3,h4,h5,?_⟩
  rcases h6 with h6|h6
  ·exact .inl h6
  ·exact .inr (by simp;omega)
def Marks (ι:bN):List Nat→List Deferred→Prop
 | [], []=>True
 |b::ms,d::ds=>(∃i,ι b=some i∧d= { target:= .collected i.r,args:= #[] })∧Marks ι ms ds
 |_,_=>False
theorem Marks.mono (hi:ι.le ι'): ∀ {ms:List Nat} {ds:List Deferred},Marks ι ms ds→Marks ι' ms ds
 | [], [],_=>trivial
 |_::_,_::_,⟨⟨i,h1,h2⟩,h3⟩=>⟨⟨i,hi _ _ h1,h2⟩,h3.mono hi⟩
 | [],_::_,h=>h.elim
 |_::_, [],h=>h.elim
def nW (ι:bN):Option Nat→Option Nat→Prop
 |none,none=>True
 |some l,some r=> ∃i,ι l=some i∧i.r=r
 |_,_=>False
theorem nW.mono (hi:ι.le ι') {ro gx:Option Nat} (h:nW ι ro gx):nW ι' ro gx:=by
 cases ro<;>cases gx<;>first|trivial|exact h.elim|(obtain ⟨i,h1,h2⟩:=h;exact ⟨i,hi _ _ h1,h2⟩)
def Fw (ro:Option Nat):Fence:= { Fence.wide with round:=ro }
def pf:VX→Exit
 | .normal=> .normal
 | .exit id=> .exit id
 | .ret=> .ret
structure fa (ng:Nat) (T:Types) (B:Nat) (ι:bN) (fr:Fr) (a:Act) (w:World):Prop where
 lz:gW ng T ι (Full ι) B fr.s w
 qg:iP ng ι
 env:gd ι fr.e fr.nt a.tmps
 marks:Marks ι fr.ms a.defers
def db (ng:Nat) (T:Types) (B:Nat) (ι:bN) (s:St) (w:World) (x:VX) (fr':Fr):Exit→Act→World→Prop:=fun e a' w'=>
 e=pf x∧ ∃ι',bH ng T B ι (Full ι) s w ι' fr'.s w'∧fa ng T B ι' fr' a' w'
def fp (ng:Nat) (T:Types) (B:Nat) (ι:bN) (s:St) (w:World) (v:Value) (s':St):Ending→World→Prop:=fun e w'=>
 ∃ι' v',e= .returned v'∧bj ι' v v'∧bH ng T B ι (Full ι) s w ι' s' w'
def jd (P:Program) (f:Nat):Prop:= ∃fn,P.funcs[f]? =some fn∧fn.body.isSome=true∧(fn.name == "runtime.NumGoroutine")=false
theorem jd.run {f:Nat} (h:jd P f) (args:Array Value) (w:World):(callFunc f args).run P w= .ok (.enter f args) w:=by
 obtain ⟨fn,h1,h2,h3⟩:=h
 cases hb:fn.body with
 |none=>simp [hb] at h2
 |some c=>
  have Kg: ¬fn.name= "runtime.NumGoroutine" :=by simpa using h3
  simp [callFunc,h1,Kg,hb]
variable {O:aL} {G:Tr Func}
def iX (ng:Nat) (T:Types) (B:Nat) (P:Program) (rec:Rec):Prop:= ∀f args s v s',rec (.call f args s)=some (.val v s')→ ∀(ι:bN) w (args':Array Value),gW ng T ι (Full ι) B s w→iP ng ι→
 bg ι args args'.toList→jd P f∧CallsIn Fence.wide 0 P f args' w (fp ng T B ι s w v s')
def nz (ng:Nat) (T:Types) (B:Nat) (P:Program) (rec:Rec):Prop:= ∀l args s v s',rec (.round l args s)=some (.val v s')→ ∀(ι:bN) w (args':Array Value) i,gW ng T ι (Full ι) B s w→iP ng ι→
 ι l=some i→bg ι args args'.toList→ ∃f tmps aS9 bd,(Instr.yield i.r args').run P w= .ok (.round i.r f tmps aS9 bd) w∧RoundIn Fence.wide 0 P i.r f tmps aS9 bd w (fp ng T B ι s w v s')
theorem semAt_eq {o:Oper} (h: ∀c,o.op≠ .defer c) (ro:Option Nat) (ρ:Operand→Value):o.semAt ro ρ=execOp ρ o:=by
 unfold Oper.semAt
 split
 ·rename_i c e;exact absurd e (h c)
 ·rfl
theorem yR (hT:lG P T) {rec:Rec} (Uj:gH rec) (eY:iX ng T B P rec) (nI:nz ng T B P rec) {ops:Array Oper} {dr:Bool} {flags:List de} {o:Oper} {l:List Oper} {fr:Fr} {res:ep}
  (hok:gk ng o=true) (hr:dV T rec ops dr flags o l fr=some res): ∃v s₁ gB fl,put fr o.dst v { s₁ with wm:=min fr.s.wm s₁.wm } =some gB∧
   fl=⟨ag (ev fr.e) o.op,writes (ev fr.e) o.op (Nat.blt s₁.wm fr.s.n),fr.s.n,s₁.n⟩∧
   rec (.run ops dr (cQ dr fl flags) l gB)=some res∧(cH fr.s { s₁ with wm:=min fr.s.wm s₁.wm } ∧ ∀b,b<fr.s.n→ ¬bG fl.w b→s₁.h.get b=fr.s.h.get b)∧
   ∀(ι:bN) (D:Nat→Prop) (a:Act) (w:World) (ro:Option Nat) (next:Act→World→Prop) (Q:Exit→Act→World→Prop),gW ng T ι D B fr.s w→iP ng ι→
    (∀x∈o.op.operands,bj ι (ev fr.e x) (a.eval x))→gJ ι D (ag (ev fr.e) o.op)→
    (∀ι' w' v',bj ι' v v'→bH ng T B ι D { fr.s with wm:=fr.s.n } w ι' s₁ w'→next (a.put o.dst v') w')→o.wpIn (Fw ro) 0 P a w next Q:=by
 have DM: ∀ {v s c},done fr o v s c=some res→ ∃gB,put fr o.dst v { s with wm:=min fr.s.wm s.wm } =some gB∧c gB (Nat.blt s.wm fr.s.n) s.n=some res:=by
  intro v s c h
  unfold done at h
  split at h
  ·cases h
  ·rename_i gB h1;exact ⟨gB,h1,h⟩
 have Uc: ∀c,o.op≠ .defer c:=by
  intro c e
  unfold dV at hr
  rw [e] at hr
  simp [evalOp] at hr
 have hkeep: ∀ {s₁:St},cH { fr.s with wm:=fr.s.n } s₁→(∀b,b<fr.s.n→ ¬bG (bA (ev fr.e) o.op) b→s₁.h.get b=fr.s.h.get b)→
   cH fr.s { s₁ with wm:=min fr.s.wm s₁.wm } ∧ ∀b,b<fr.s.n→ ¬bG (writes (ev fr.e) o.op (Nat.blt s₁.wm fr.s.n)) b→s₁.h.get b=fr.s.h.get b:=by
  intro s₁ hv hk
  refine ⟨hv.wm,fun b hb hn=> ?_⟩
  cases hw:Nat.blt s₁.wm fr.s.n with
  |true=>rw [hw] at hn;exact hk b hb hn
  |false=>
   have hge: ¬s₁.wm<fr.s.n:=fun h=>by rw [←Nat.blt_eq] at h;rw [h] at hw;cases hw
   rcases hv.keep b hb with e|⟨_,h2⟩
   ·exact e
   ·exact absurd h2 (by omega)
 unfold dV at hr
 split at hr
 ·cases hr
 ·rename_i v s₁ he
  obtain ⟨gB,h1,h2⟩:=DM hr
  have hf:=fS he
  refine ⟨v,s₁,gB,_,h1,rfl,h2,hkeep (cH.of hf) (fun b hb hn=>(hf.keep b hb).resolve_right fun x=>hn x.1),fun ι D a w ro next Q fC hg Ea ht kX=>⟨fun _ _=>trivial,?_⟩⟩
  obtain ⟨ι',v',w',hrun,hv,kV⟩:=kA (P:=P) hT (fC.wm _) o Ea ht he
  rw [semAt_eq Uc]
  rcases hrun with hrun|⟨hrun,rfl⟩
  ·rw [hrun];exact kX ι' w' v' hv kV
  ·rw [hrun];exact kX ι' w' _ hv kV
 ·rename_i f args s₀ he
  split at hr
  ·rename_i v s₁ eR
   obtain ⟨gB,h1,h2⟩:=DM hr
   have fe:ag (ev fr.e) o.op=none:=by
    cases hop:o.op<;>rw [hop] at he<;>simp only [evalOp] at he<;>first
     |(simp at he;done)
     |skip
    all_goals first
     |(exfalso;revert he;(repeat' split)<;>simp [one,two,three];done)
     |(exfalso;revert he;simp only [one,two,three];(repeat' split)<;>simp;done)
     |skip
    case call c=>
     unfold dG at he
     split at he
     ·exfalso
      rename_i b hb
      revert he
      unfold bI one two
      (repeat' split)<;>simp
     ·cases he
     ·simp only [ag]
      rename_i fo Kv
      rw [Kv]
   have Uq:bA (ev fr.e) o.op=none:=by
    cases hop:o.op<;>rw [hop] at fe<;>simp only [ag] at fe<;>try (cases fe;done)
    case call c=>
     simp only [bA]
     split at fe
     ·cases fe
     ·rename_i hn
      first
       |rfl
       |(
        split
        ·rename_i b hb;exact absurd hb (hn b)
        ·rfl)
   refine ⟨v,s₁,gB,_,h1,rfl,?_,hkeep ((cH.of (fS he)).trans (Uj _ _ eR)) (fun b hb hn=>absurd (by rw [Uq];trivial) hn),fun ι D a w ro next Q fC hg Ea ht kX=>⟨fun _ _=>trivial,?_⟩⟩
   ·rw [fe];exact h2
   ·rw [fe] at ht
    obtain ⟨rfl,args',ha,hrun⟩:=kA (P:=P) hT (fC.wm fr.s.n) o Ea (by rw [fe];exact ht) he
    have hfull:gW ng T ι (Full ι) B { fr.s with wm:=fr.s.n } w:=(fC.wm _).weaken fun b i hi _=>ht b i hi
    obtain ⟨ll,qG⟩:=eY _ _ _ _ _ eR ι w args' hfull hg ha
    rw [semAt_eq Uc,hrun,ll.run]
    refine ⟨fun h=>by simp [Fw,Fence.wide] at h,?_⟩
    refine CallsIn.mono (F:=Fw ro) (n:=0) (P:=P) (R:=fp ng T B ι { fr.s with wm:=fr.s.n } w v s₁) qG fun e w' hp=> ?_
    obtain ⟨ι',v',rfl,hv,kV⟩:=hp
    exact kX ι' w' v' hv (kV.yd (hfull.IA ht))
  ·cases hr
 ·rename_i lp args s₀ he
  split at hr
  ·rename_i v s₁ eR
   obtain ⟨gB,h1,h2⟩:=DM hr
   have fe:ag (ev fr.e) o.op=none:=by
    cases hop:o.op<;>rw [hop] at he<;>simp only [evalOp] at he<;>first
     |(simp at he;done)
     |skip
    all_goals first
     |(exfalso;revert he;(repeat' split)<;>simp [one,two,three];done)
     |(exfalso;revert he;simp only [one,two,three];(repeat' split)<;>simp;done)
     |skip
    case call c=>
     unfold dG at he
     split at he
     ·exfalso
      rename_i b hb
      revert he
      unfold bI one two
      (repeat' split)<;>simp
     ·cases he
     ·simp only [ag]
      rename_i fo Kv
      rw [Kv]
   have Uq:bA (ev fr.e) o.op=none:=by
    cases hop:o.op<;>rw [hop] at fe<;>simp only [ag] at fe<;>try (cases fe;done)
    case call c=>
     simp only [bA]
     split at fe
     ·cases fe
     ·rename_i hn
      first
       |rfl
       |(
        split
        ·rename_i b hb;exact absurd hb (hn b)
        ·rfl)
   refine ⟨v,s₁,gB,_,h1,rfl,?_,hkeep ((cH.of (fS he)).trans (Uj _ _ eR)) (fun b hb hn=>absurd (by rw [Uq];trivial) hn),fun ι D a w ro next Q fC hg Ea ht kX=>⟨fun _ _=>trivial,?_⟩⟩
   ·rw [fe];exact h2
   ·rw [fe] at ht
    obtain ⟨rfl,i,args',hi,ha,hrun⟩:=kA (P:=P) hT (fC.wm fr.s.n) o Ea (by rw [fe];exact ht) he
    have hfull:gW ng T ι (Full ι) B { fr.s with wm:=fr.s.n } w:=(fC.wm _).weaken fun b i hi _=>ht b i hi
    obtain ⟨f,tmps,aS9,bd,hy,hR⟩:=nI _ _ _ _ _ eR ι w args' i hfull hg hi ha
    rw [semAt_eq Uc,hrun,hy]
    refine ⟨fun h=>by simp [Fw,Fence.wide] at h,?_⟩
    refine RoundIn.mono (F:=Fw ro) (n:=0) (P:=P) (R:=fp ng T B ι { fr.s with wm:=fr.s.n } w v s₁) hR fun e w' hp=> ?_
    obtain ⟨ι',v',rfl,hv,kV⟩:=hp
    exact kX ι' w' v' hv (kV.yd (hfull.IA ht))
  ·cases hr
end Go.Vm
end
noncomputable section
namespace Go.Vm
open Go
variable {ng:Nat} {T:Types} {B:Nat} {ι ι' ua:bN} {D D₂:Nat→Prop} {s s' tR:St} {w w' w'':World} {P:Program} {rec:Rec}
theorem fY {b:Frame} {a:Act} {k:List Item} {cs:List Frame} {c:Code} :step P (lone (b.atR a (.code (.scope c)::k)) cs w)= .next (lone (b.atR a (.code c:: .inScope c::k)) cs w):=
 step_lone_go (by simp [stepG,stepG.exec,Frame.atR])
theorem sv {b:Frame} {a:Act} {k:List Item} {cs:List Frame} {c:Code} :step P (lone (b.atR a (.inScope c::k)) cs w)= .next (lone (b.atR a k) cs w):=
 step_lone_go (by simp [stepG,stepG.exec,Frame.atR])
theorem zj {F:Fence} {n:Nat} {Q:Exit→Act→World→Prop} {a:Act} {c:Code} (h:c.wpIn F n P (Exit.noGoto Q) a w):(Code.scope c).wpIn F n P Q a w:=by
 intro b k cs hro hb hr
 have h0:(lone (b.atR a (.code (.scope c)::k)) cs w).fenced P F:=fenced_calm hb hr rfl
 obtain ⟨e,a₁,w₁,hq,Bl⟩:=h b (.inScope c::k) cs hro hb hr
 cases e with
 |normal=>exact ⟨.normal,a₁,w₁,hq,.head h0 fY (StepsIn.trans Bl (.one (fenced_calm hb hr rfl) sv))⟩
 |exit id=>
  have hx:exitTo id (.inScope c::k)=exitTo id k:=by simp [exitTo]
  exact ⟨.exit id,a₁,w₁,hq,fun k' hk=> .head h0 fY (Bl.1 k' (by rw [hx];exact hk)),
   fun Al hk=>let ⟨k₁,h1,h2⟩:=Bl.2 Al (by rw [hx];exact hk);⟨k₁,h1,.head h0 fY h2⟩⟩
 |goto l=>exact hq.elim
 |ret=>exact ⟨_,a₁,w₁,hq,.of_steps (.one h0 fY) Bl⟩
 |panic ch=>exact ⟨_,a₁,w₁,hq,.of_steps (.one h0 fY) Bl⟩
 |outgrown=>exact ⟨_,a₁,w₁,hq,.of_steps (.one h0 fY) Bl⟩
theorem nh {F:Fence} {n:Nat} {Q Q':Exit→Act→World→Prop} {c:Code} (h: ∀e a w,Q' e a w→Q e a w): ∀m a w,Code.roundsIn F n P c Q' m a w→Code.roundsIn F n P c Q m a w
 |0,_,_,hh=>hh
 |m+1,a,w,hh=>wpIn_mono hh fun e a w he=>by
  cases e<;>first|exact nh h m _ _ he|exact h _ _ _ he
def Cw (ng:Nat) (T:Types) (B:Nat) (P:Program) (fr:Fr) (o:Oper) (v:Value) (s₁:St) (t:Reach):Prop:=
 ∀(ι:bN) (D:Nat→Prop) (a:Act) (w:World) (ro:Option Nat) (next:Act→World→Prop) (Q:Exit→Act→World→Prop),gW ng T ι D B fr.s w→iP ng ι→
  (∀x∈o.op.operands,bj ι (ev fr.e x) (a.eval x))→gJ ι D t→
  (∀ι' w' v',bj ι' v v'→bH ng T B ι D { fr.s with wm:=fr.s.n } w ι' s₁ w'→next (a.put o.dst v') w')→o.wpIn (Fw ro) 0 P a w next Q
inductive oR (ng:Nat) (T:Types) (B:Nat) (P:Program) (ops:Array Oper):List de→List Oper→Fr→List de→Fr→Prop
 |nil (fl:List de) (fr:Fr):oR ng T B P ops fl [] fr fl fr
 |skip (fl og:List de) (o:Oper) (l:List Oper) (fr gB fr':Fr) (hw:cg ops fr.e o=false) (hp:put fr o.dst undef fr.s=some gB)
   (h:oR ng T B P ops (⟨some [],some [],fr.s.n,fr.s.n⟩::fl) l gB og fr'):oR ng T B P ops fl (o::l) fr og fr'
 |op (fl og:List de) (o:Oper) (l:List Oper) (fr gB fr':Fr) (v:Value) (s₁:St) (hw:cg ops fr.e o=true) (hp:put fr o.dst v { s₁ with wm:=min fr.s.wm s₁.wm } =some gB)
   (hf:Cw ng T B P fr o v s₁ (ag (ev fr.e) o.op))
   (hk:cH fr.s { s₁ with wm:=min fr.s.wm s₁.wm } ∧ ∀b,b<fr.s.n→ ¬bG (writes (ev fr.e) o.op (Nat.blt s₁.wm fr.s.n)) b→s₁.h.get b=fr.s.h.get b)
   (h:oR ng T B P ops (⟨ag (ev fr.e) o.op,writes (ev fr.e) o.op (Nat.blt s₁.wm fr.s.n),fr.s.n,s₁.n⟩::fl) l gB og fr'):oR ng T B P ops fl (o::l) fr og fr'
theorem BO (hT:lG P T) (Uj:gH rec) (eY:iX ng T B P rec) (nI:nz ng T B P rec)
  (hrun: ∀ops dr flags l fr res,rec (.run ops dr flags l fr)=some res→l.all (gk ng)=true→ ∀zO,(dr=true→zO=flags)→ ∃fl fr',oR ng T B P ops zO l fr fl fr'∧res= .code .normal fr'∧(dr=true→je ops fl.reverse=true))
  {ops:Array Oper} {dr:Bool} {flags:List de} {l:List Oper} {fr:Fr} {res:ep} (hr:cB T rec ops dr flags l fr=some res) (hok:l.all (gk ng)=true) (zO:List de) (hfl:dr=true→zO=flags):
  ∃fl fr',oR ng T B P ops zO l fr fl fr'∧res= .code .normal fr'∧(dr=true→je ops fl.reverse=true):=by
 unfold cB at hr
 split at hr
 ·split at hr
  ·simp at hr
   exact ⟨zO,fr,.nil _ _,hr.symm,fun h=>by cases h⟩
  ·split at hr
   ·rename_i hd
    simp at hr
    exact ⟨zO,fr,.nil _ _,hr.symm,fun _=>by rw [hfl rfl];exact hd⟩
   ·cases hr
 ·rename_i o l
  simp only [List.all_cons,Bool.and_eq_true] at hok
  split at hr
  ·rename_i hw
   unfold done at hr
   split at hr
   ·cases hr
   ·rename_i gB hp
    obtain ⟨fl,fr',h1,h2,h3⟩:=hrun _ _ _ _ _ _ hr hok.2 (⟨some [],some [],fr.s.n,fr.s.n⟩::zO) (fun h=>by subst h;rw [hfl rfl];rfl)
    refine ⟨fl,fr',.skip _ _ o l fr gB fr' hw ?_ h1,h2,h3⟩
    have:({ fr.s with wm:=min fr.s.wm fr.s.wm } :St)=fr.s:=by simp
    rw [this] at hp;exact hp
  ·rename_i hw
   obtain ⟨v,s₁,gB,fl,h1,rfl,h2,hk,h3⟩:=yR (P:=P) hT Uj eY nI hok.1 hr
   obtain ⟨fl,fr',k1,k2,k3⟩:=hrun _ _ _ _ _ _ h2 hok.2 (⟨ag (ev fr.e) o.op,writes (ev fr.e) o.op (Nat.blt s₁.wm fr.s.n),fr.s.n,s₁.n⟩::zO) (fun h=>by subst h;rw [hfl rfl];rfl)
   exact ⟨fl,fr',.op _ _ o l fr gB fr' v s₁ hw h1 h3 hk k1,k2,k3⟩
theorem pP {ops:Array Oper} {e:Tr Value} {tmps:Array Value} {o:Oper} (h: ∀g d,o.guard=some g→(ops[g.1]?).bind (·.dst)=some d→bj ι (ev e (.tmp d)) (tmps.getD d undef)):
  Region.wanted o (yielded ops tmps)=cg ops e o:=by
 unfold Region.wanted cg
 cases hg:o.guard with
 |none=>rfl
 |some g=>
  obtain ⟨j,want⟩:=g
  simp only [yielded]
  cases hd:(ops[j]?).bind (·.dst) with
  |none=>simp
  |some d=>
   have bZ:=h _ d hg hd
   simp only [Option.bind_some]
   unfold ev at bZ
   rw [Array.getD_eq_getD_getElem?] at bZ
   cases he:e.get d with
   |none=>
    simp only [he] at bZ
    cases ht:tmps[d]? with
    |none=>simp
    |some v=>
     rw [ht] at bZ
     simp at bZ
     unfold undef at bZ
     cases bZ
     simp
   |some u=>
    simp only [he] at bZ
    cases ht:tmps[d]? with
    |none=>
     rw [ht] at bZ
     simp at bZ
     unfold undef at bZ
     generalize hx:Value.tuple #[]=x at bZ
     cases bZ<;>simp_all
    |some v=>
     rw [ht] at bZ
     simp at bZ
     cases bZ<;>simp
theorem Az {fr gB:Fr} {d:Option Nat} {v v':Value} {s₁:St} {a:Act} (hp:put fr d v s₁=some gB) (kD:gd ι fr.e fr.nt a.tmps) (hm:Marks ι fr.ms a.defers) (hv:bj ι v v') (hs:gW ng T ι (Full ι) B s₁ w) (hg:iP ng ι):
  gB.s=s₁∧fa ng T B ι gB (a.put d v') w:=by
 unfold put at hp
 split at hp
 ·simp at hp;subst hp
  exact ⟨rfl,hs,hg,kD,hm⟩
 ·split at hp
  ·rename_i d hd
   rw [Nat.blt_eq] at hd
   simp at hp;subst hp
   exact ⟨rfl,hs,hg,kD.set hd hv,hm⟩
  ·cases hp
theorem zg (ι:bN) (t:Reach):gJ ι (Full ι) t:=by
 cases t<;>simp only [gJ]
 ·exact fun b i hi=>⟨i,hi⟩
 ·exact fun b i _ hi=>⟨i,hi⟩
theorem oR.order {ops:Array Oper} {fl og:List de} {l:List Oper} {fr fr':Fr} (h:oR ng T B P ops fl l fr og fr') (hok:l.all (gk ng)=true): ∀k,l=ops.toList.drop k→
  ∀(ι:bN) (a:Act) (w:World) (ro:Option Nat) (Q:Exit→Act→World→Prop),fa ng T B ι fr a w→
   (∀ι' a' w',bH ng T B ι (Full ι) fr.s w ι' fr'.s w'→fa ng T B ι' fr' a' w'→Q .normal a' w')→wpOpsIn (Fw ro) 0 P ops Q (List.range' k (ops.size - k)) a w:=by
 induction h with
 |nil fl fr=>
  intro k hk ι a w ro Q bX hQ
  have:ops.size - k=0:=by
   have:=congrArg List.length hk
   simpa using this.symm
  rw [this]
  exact hQ ι a w (bH.refl bX.lz rfl) bX
 |skip fl og o l fr gB fr' hw hp _ ih=>
  intro k hk ι a w ro Q bX hQ
  simp only [List.all_cons,Bool.and_eq_true] at hok
  have hlt:k<ops.size:=by
   have:=congrArg List.length hk
   simp at this;omega
  have iA:ops[k]? =some o:=by
   have:=drop_cons hk.symm
   simpa using this
  have DN:l=ops.toList.drop (k+1):=by
   rw [←List.drop_drop,←hk];rfl
  rw [show ops.size - k=(ops.size - (k+1))+1 by omega,List.range'_succ]
  have wR:=pP (ι:=ι) (ops:=ops) (e:=fr.e) (tmps:=a.tmps) (o:=o) fun g d _ _=>bX.env.rel d
  simp only [wpOpsIn,iA,wR,hw,Bool.false_eq_true,if_false]
  obtain ⟨hs,wG⟩:=Az hp bX.env bX.marks (bj.undef ι) bX.lz bX.qg
  exact ⟨fun _ _=>trivial,ih hok.2 (k+1) DN ι _ w ro Q wG fun ι' a' w' hg hf=>hQ ι' a' w' (hs ▸ hg) hf⟩
 |op fl og o l fr gB fr' v s₁ hw hp hf _ _ ih=>
  intro k hk ι a w ro Q bX hQ
  simp only [List.all_cons,Bool.and_eq_true] at hok
  have hlt:k<ops.size:=by
   have:=congrArg List.length hk
   simp at this;omega
  have iA:ops[k]? =some o:=by
   have:=drop_cons hk.symm
   simpa using this
  have DN:l=ops.toList.drop (k+1):=by
   rw [←List.drop_drop,←hk];rfl
  rw [show ops.size - k=(ops.size - (k+1))+1 by omega,List.range'_succ]
  have wR:=pP (ι:=ι) (ops:=ops) (e:=fr.e) (tmps:=a.tmps) (o:=o) fun g d _ _=>bX.env.rel d
  simp only [wpOpsIn,iA,wR,hw,if_true]
  refine hf ι (Full ι) a w ro _ Q bX.lz bX.qg (fun x hx=>bX.env.ev bX.qg ?_) ?_ fun ι' w' v' hv kV=> ?_
  ·have:=hok.1
   simp only [gk,List.all_eq_true] at this
   exact this x (by simpa using hx)
  ·exact zg _ _
  ·have ql:=kV.FE (Nat.le_refl _)
   obtain ⟨hs,wG⟩:=Az hp (bX.env.mono ql.le) (bX.marks.mono ql.le) hv ql.full (bX.qg.mono ql.le)
   exact ih hok.2 (k+1) DN ι' _ w' ro Q wG fun ua a' w'' hg hf=>hQ ua a' w'' (ql.seq (hs ▸ hg)) hf
end Go.Vm
end
noncomputable section
namespace Go.Vm
open Go
variable {ng:Nat} {T:Types} {B:Nat} {ι ι₁ ι' ua:bN} {s s₁ s' tR:St} {w w₁ w' w'':World} {P:Program} {rec:Rec} {O:aL} {G:Tr Func}
def iY (ng:Nat) (T:Types) (B:Nat) (P:Program) (rec:Rec):Prop:= ∀c ro fr x fr',rec (.code c ro fr)=some (.code x fr')→codeOk ng c=true→
 ∀(ι:bN) a w gx,fa ng T B ι fr a w→nW ι ro gx→c.wpIn (Fw gx) 0 P (db ng T B ι fr.s w x fr') a w
def oQ (ng:Nat) (T:Types) (B:Nat) (P:Program) (rec:Rec) (n:Nat):Prop:= ∀c ro fr x fr',rec (.code (.loop c) ro fr)=some (.code x fr')→codeOk ng c=true→
 ∀(ι:bN) a w gx,fa ng T B ι fr a w→nW ι ro gx→Code.roundsIn (Fw gx) 0 P c (db ng T B ι fr.s w x fr') n a w
def CA (ng:Nat) (T:Types) (B:Nat) (P:Program) (rec:Rec):Prop:=
 ∀ops dr flags l fr res,rec (.run ops dr flags l fr)=some res→l.all (gk ng)=true→ ∀zO,(dr=true→zO=flags)→ ∃fl fr',oR ng T B P ops zO l fr fl fr'∧res= .code .normal fr'∧(dr=true→je ops fl.reverse=true)
def ud (ng:Nat) (T:Types) (B:Nat) (P:Program):Prop:=
 ∀ops fl fr fr',oR ng T B P ops [] ops.toList fr fl fr'→je ops fl.reverse=true→ops.toList.all (gk ng)=true→rX ops=true→ ∀(ι:bN) (a:Act) (w:World) (ro:Option Nat) (id:Nat) (Q:Exit→Act→World→Prop),
  fa ng T B ι fr a w→(∀ι' a' w',bH ng T B ι (Full ι) fr.s w ι' fr'.s w'→fa ng T B ι' fr' a' w'→Q .normal a' w')→(Code.region id ops true).wpIn (Fw ro) 0 P Q a w
theorem db.seq {x:VX} {fr':Fr} {e:Exit} {a':Act} (h:bH ng T B ι (Full ι) s w ι₁ s₁ w₁) (hp:db ng T B ι₁ s₁ w₁ x fr' e a' w'):db ng T B ι s w x fr' e a' w':=by
 obtain ⟨h1,ι',h2,h3⟩:=hp
 exact ⟨h1,ι',h.seq h2,h3⟩
theorem db.here {x:VX} {fr:Fr} {a:Act} (h:fa ng T B ι fr a w):db ng T B ι fr.s w x fr (pf x) a w:=
 ⟨rfl,ι,bH.refl h.lz rfl,h⟩
def pL (tmps:Array Value):ResultVar→Sem Value
 | .tmp t=>pure (tmps.getD t undef)
 | .cell a t=>do loadVar t (←asAddr (tmps.getD a undef))
theorem yV (fn:Func) (tmps:Array Value):results fn tmps=(do
  let vs ←fn.results.mapM (pL tmps)
  pure (if h:vs.size=1 then vs[0] else .tuple vs)):=by
 rfl
theorem mf (hT:lG P T) {e:Tr Value} {nt:Nat} {tmps:Array Value} (fC:gW ng T ι (Full ι) B s w) (kD:gd ι e nt tmps): ∀ {rs:List ResultVar} {l:List Value} {fr:Fr},fr.e=e→fr.s=s→
  cD T rs fr=some l→ ∃l',(rs.mapM (pL tmps)).run P w= .ok l' w∧bg ι l l'
 | [],l,fr,he,hs,h=>by simp [cD] at h;subst h;exact ⟨[],by simp,.nil⟩
 | .tmp t::rs,l,fr,he,hs,h=>by
  simp only [cD] at h
  split at h
  ·rename_i l₁ h1
   simp at h;subst h
   obtain ⟨l',h2,h3⟩:=mf hT fC kD he hs h1
   have h0:(pL tmps (.tmp t)).run P w= .ok (tmps.getD t undef) w:=rfl
   exact ⟨tmps.getD t undef::l',by simp only [List.mapM_cons,Sem.run_bind,h0,Result.andThen_ok,h2,Sem.run_pure],.cons _ _ _ _ (he ▸ kD.rel t) h3⟩
  ·cases h
 | .cell a t::rs,l,fr,he,hs,h=>by
  simp only [cD] at h
  split at h
  ·rename_i ti p ht hp
   split at h
   ·rename_i v hv
    split at h
    ·rename_i l₁ h1
     simp at h;subst h
     obtain ⟨l',h2,h3⟩:=mf hT fC kD he hs h1
     have bZ:=kD.rel a
     rw [←he,hp] at bZ
     have hfull:Full ι p.block:=by
      generalize tmps.getD a undef=q at bZ
      cases bZ with
      |ptr b o i hi=>exact ⟨i,hi⟩
     obtain ⟨v',h4,h5⟩:=Aw (P:=P) hT fC ht bZ hfull (hs ▸ hv)
     refine ⟨v'::l',?_,.cons _ _ _ _ h5 h3⟩
     have h0:(pL tmps (.cell a t)).run P w= .ok v' w:=by
      unfold pL
      obtain ⟨q,hq⟩: ∃q,tmps.getD a undef=q:=⟨_,rfl⟩
      rw [hq] at bZ h4
      cases bZ with
      |ptr b o i hi=>
       simp only [Instr.loadAt,Instr.sureAddr,Sem.run_bind,Sem.run_pure,Result.andThen_ok] at h4
       simp only [asAddr,hq,Sem.run_bind,Sem.run_pure,Result.andThen_ok,h4]
     simp only [List.mapM_cons,Sem.run_bind,h0,Result.andThen_ok,h2,Sem.run_pure]
    ·cases h
   ·cases h
  ·cases h
theorem zh {l l':List Value} (h:bg ι l l'):bj ι (fi l) (if h:l'.toArray.size=1 then l'.toArray[0] else .tuple l'.toArray):=by
 cases h with
 |nil=>exact .tuple [] [] .nil
 |cons v v' l l' h hl=>
  cases hl with
  |nil=>exact h
  |cons u u' l l' hu hl=>
   have: ¬(v'::u'::l').toArray.size=1:=by simp
   rw [dif_neg this]
   exact .tuple _ _ (.cons _ _ _ _ h (.cons _ _ _ _ hu hl))
theorem leaves (hT:lG P T) {fn:Func} {e:Tr Value} {nt:Nat} {tmps:Array Value} : ∀ {ms:List Nat} {ds:List Deferred} {ι:bN} {s s₂:St} {w:World} {fr:Fr} {l:List Value},gW ng T ι (Full ι) B s w→gd ι e nt tmps→
  Marks ι ms ds→shut ms s=some s₂→fr.e=e→fr.s=s₂→cD T fn.results.toList fr=some l→ ∀(R:Ending→World→Prop),
  (∀v' w',bj ι (fi l) v'→bH ng T B ι (Full ι) s w ι s₂ w'→R (.returned v') w')→LeavesInM Fence.wide 0 P fn tmps R ds .returning w
 | [], [],ι,s,s₂,w,fr,l,fC,kD,_,hs,he,hf,hr,R,hR=>by
  simp [shut] at hs
  subst hs
  obtain ⟨l',h1,h2⟩:=mf (P:=P) hT fC kD he hf hr
  have hm:(fn.results.mapM (pL tmps)).run P w= .ok l'.toArray w:=by
   rw [Array.mapM_eq_mapM_toList]
   simp [h1]
  have hres:(results fn tmps).run P w= .ok (if h:l'.toArray.size=1 then l'.toArray[0] else .tuple l'.toArray) w:=by
   rw [yV]
   simp only [Sem.run_bind,hm,Result.andThen_ok,Sem.run_pure]
  exact ⟨_,hres,hR _ w (zh h2) (bH.refl fC rfl)⟩
 | [],_::_,_,_,_,_,_,_,_,_,h,_,_,_,_,_,_=>h.elim
 |_::_, [],_,_,_,_,_,_,_,_,h,_,_,_,_,_,_=>h.elim
 |b::ms,d::ds,ι,s,s₂,w,fr,l,fC,kD,⟨⟨i,hi,hd⟩,hm⟩,hs,he,hf,hr,R,hR=>by
  subst hd
  simp only [shut] at hs
  split at hs
  ·rename_i hb
   have ho:=fC.obj b _ i ⟨i,hi⟩ hb hi
   have hlt:=(ho.lt rfl).2
   have hg:bH ng T B ι (Full ι) s w ι { s with h:=s.h.set b .dead,wm:=min s.wm b } (w.putObj i.r (.deferred none)):=
    bH.write fC ⟨i,hi⟩ hb hi rfl (.inr rfl) (kJ _ _ _) (fun r hr=>World.putObj_heap_other hr) trivial
   refine ⟨by simp,.inl ⟨i.r,_,rfl,run_takeDeferred ho.1,?_⟩⟩
   exact leaves hT hg.full kD hm hs he hf hr R fun v' w' hv kV=>hR v' w' hv (hg.seq kV)
  ·cases hs
end Go.Vm
end
