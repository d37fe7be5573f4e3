/-
  A part of the proof of PromiseBytes: lemmas, in short letters, printed by a program out of the longer texts; conditions: those that each lemma names.
-/
import Derived.Test.YtalmddmghdinkaaGreatDoorProg
import Derived.KernelRfl
import Derived.Test.YtalmddmghdinkaaGreatDoorK
set_option linter.all false
set_option linter.deprecated false
noncomputable section
namespace Go.Vm.X
open Go
variable {O:aL} {G:Tr Func} {T:Types}
def CT (cf:CF) (f:Nat) (args:List V) (s:S):Option ep:=
 match Nat.ble s.wm s.n with
 |true=>match cf f args s with
  |some (v,s')=>some (.val v s')
  |none=>none
 |false=>none
def Jd (cf:CF) (T:Types) (rec:Rec) (t:Task):Option ep:=
 match t with
 | .code c ro fr=>cN rec c ro fr
 | .run ops dr fl l fr=>cB kn T rec ops dr fl l fr
 | .call f args s=>CT cf f args s
 | .round l args s=>cu rec l args s
def dn (cf:CF) (T:Types) (n:Nat):Rec:=Nat.rec (motive:=fun _=>Rec) (fun _=>none) (fun _ ih=>Jd cf T ih) n
def Up (O:aL) (G:Tr Func) (T:Types) (rec:Rec):Prop:= ∀t r,rec t=some r→ ∃N,run O G T N t=some r
theorem mu {t:Task} {r:ep} {N:Nat} (M:Nat) (h:run O G T N t=some r):run O G T (max N M) t=some r:=iC (Nat.le_max_left _ _) _ _ h
theorem jM {t:Task} {r:ep} {N:Nat} (M:Nat) (h:run O G T N t=some r):run O G T (max M N) t=some r:=iC (Nat.le_max_right _ _) _ _ h
variable {rec:Rec}
theorem BT (hl:Up O G T rec) {ops:Array Oper} {dr:Bool} {fl:List Fl} {o:Oper} {l:List Oper} {fr:F} {r:ep} (h:dV kn T rec ops dr fl o l fr=some r): ∃N,dV kn T (run O G T N) ops dr fl o l fr=some r:=by
 unfold dV at h
 split at h
 ·cases h
 ·rename_i v s he
  unfold done at h
  split at h
  ·cases h
  ·rename_i fr' hp
   obtain ⟨N,hN⟩:=hl _ _ h
   refine ⟨N,?_⟩
   unfold dV
   simp only [he]
   unfold done
   rw [hp]
   exact hN
 ·rename_i f args s he
  split at h
  ·rename_i hk;cases hk
  ·split at h
   rename_i lH bs s₂ hz
   split at h
   ·rename_i v s₃ hc
    obtain ⟨N,hN⟩:=hl _ _ hc
    unfold mV at h
    split at h
    ·cases h
    ·rename_i fr' hp
     obtain ⟨M,hM⟩:=hl _ _ h
     refine ⟨max N M,?_⟩
     unfold dV
     simp only [he,hz,mu M hN]
     unfold mV
     rw [hp]
     exact jM N hM
   ·cases h
 ·rename_i f args s he
  split at h
  ·rename_i v s₃ hc
   obtain ⟨N,hN⟩:=hl _ _ hc
   unfold done at h
   split at h
   ·cases h
   ·rename_i fr' hp
    obtain ⟨M,hM⟩:=hl _ _ h
    refine ⟨max N M,?_⟩
    unfold dV
    simp only [he,mu M hN]
    unfold done
    rw [hp]
    exact jM N hM
  ·cases h
theorem zd (hl:Up O G T rec) {ops:Array Oper} {dr:Bool} {fl:List Fl} {l:List Oper} {fr:F} {r:ep} (h:cB kn T rec ops dr fl l fr=some r): ∃N,cB kn T (run O G T N) ops dr fl l fr=some r:=by
 cases l with
 |nil=>exact ⟨0,h⟩
 |cons o l=>
  unfold cB at h
  simp only [] at h
  split at h
  ·cases h
  ·rename_i hw
   unfold done at h
   split at h
   ·cases h
   ·rename_i fr' hp
    obtain ⟨N,hN⟩:=hl _ _ h
    refine ⟨N,?_⟩
    unfold cB
    simp only [hw]
    unfold done
    rw [hp]
    exact hN
  ·rename_i hw
   obtain ⟨N,hN⟩:=BT hl h
   refine ⟨N,?_⟩
   unfold cB
   simp only [hw]
   exact hN
theorem oJ (hl:Up O G T rec) {ro:Option Nat} {fr:F} {f:Operand} {ps:Array Tmp} {a b:Code} {d:Nat} {ms:List Nat} {s:S} {r:ep} (h:b9 rec ro fr f ps a b d ms s=some r): ∃N,b9 (run O G T N) ro fr f ps a b d ms s=some r:=by
 unfold b9 at h
 split at h
 ·rename_i g first captured hg
  split at h
  ·rename_i v s' hc
   obtain ⟨N,hN⟩:=hl _ _ hc
   split at h
   ·rename_i r₀ iA
    split at h
    ·cases h
    ·rename_i hst
     cases hp:r₀.pending with
     |none=>
      rw [hp] at h
      refine ⟨N,?_⟩
      unfold b9
      simp only [hg,hN,iA]
      rw [hp]
      exact h
     |some c=>
      rw [hp] at h
      obtain ⟨M,hM⟩:=hl _ _ h
      refine ⟨max N M,?_⟩
      unfold b9
      simp only [hg,mu M hN,iA]
      rw [hp]
      exact jM N hM
   ·cases h
  ·cases h
 ·cases h
theorem xy (hl:Up O G T rec) {c:Code} {ro:Option Nat} {fr:F} {r:ep} (h:cN rec c ro fr=some r): ∃N,cN (run O G T N) c ro fr=some r:=by
 cases c<;>simp only [cN] at h ⊢ <;>try first|exact ⟨0,h⟩|exact hl _ _ h|(cases h;done)
 case seq a b=>
  unfold eT at h
  cases hq:rec (.code a ro fr) with
  |none=>rw [hq] at h;cases h
  |some q=>
   rw [hq] at h
   obtain ⟨N,hN⟩:=hl _ _ hq
   split at h
   ·rename_i fr' e
    cases e
    obtain ⟨M,hM⟩:=hl _ _ h
    refine ⟨max N M,?_⟩
    unfold eT
    rw [mu M hN]
    exact jM N hM
   ·rename_i hne
    refine ⟨N,?_⟩
    unfold eT
    rw [hN]
    split
    ·rename_i fr' e;exact absurd e (hne fr')
    ·exact h
 case cond c a b=>
  unfold eo at h
  split at h
  ·rename_i hc
   obtain ⟨N,hN⟩:=hl _ _ h
   exact ⟨N,by unfold eo;rw [hc];exact hN⟩
  ·rename_i hc
   obtain ⟨N,hN⟩:=hl _ _ h
   exact ⟨N,by unfold eo;rw [hc];exact hN⟩
  ·cases h
 case block id c=>
  unfold dC at h
  cases hq:rec (.code c ro fr) with
  |none=>rw [hq] at h;cases h
  |some q=>
   rw [hq] at h
   obtain ⟨N,hN⟩:=hl _ _ hq
   exact ⟨N,by unfold dC;rw [hN];exact h⟩
 case loop c=>
  unfold dJ at h
  cases hq:rec (.code c ro fr) with
  |none=>rw [hq] at h;cases h
  |some q=>
   rw [hq] at h
   obtain ⟨N,hN⟩:=hl _ _ hq
   split at h
   ·rename_i fr' e
    cases e
    obtain ⟨M,hM⟩:=hl _ _ h
    refine ⟨max N M,?_⟩
    unfold dJ
    rw [mu M hN]
    exact jM N hM
   ·rename_i hne
    refine ⟨N,?_⟩
    unfold dJ
    rw [hN]
    split
    ·rename_i fr' e;exact absurd e (hne fr')
    ·exact h
 case rangeFunc f ps a b=>
  unfold fX at h
  cases ro with
  |none=>
   obtain ⟨N,hN⟩:=oJ hl h
   exact ⟨N,by unfold fX;exact hN⟩
  |some l=>
   simp only [] at h
   split at h
   ·rename_i iA
    obtain ⟨N,hN⟩:=oJ hl h
    exact ⟨N,by unfold fX;simp only [iA];exact hN⟩
   ·cases h
theorem vh (hl:Up O G T rec) {l:Nat} {args:List V} {s:S} {r:ep} (h:cu rec l args s=some r): ∃N,cu (run O G T N) l args s=some r:=by
 unfold cu at h
 split at h
 ·rename_i r₀ iA
  split at h
  ·cases h
  ·rename_i e he
   split at h
   ·rename_i fr hq
    obtain ⟨N,hN⟩:=hl _ _ hq
    unfold fL at h
    split at h
    ·rename_i r₁ Af
     split at h
     ·rename_i hst
      split at h
      ·rename_i x ic hq₂
       obtain ⟨M,hM⟩:=hl _ _ hq₂
       refine ⟨max N M,?_⟩
       unfold cu
       simp only [iA,he,mu M hN]
       unfold fL
       simp only [Af,hst,jM N hM]
       exact h
      ·cases h
     ·cases h
    ·cases h
   ·cases h
 ·cases h
theorem q8 {cf:CF} (vC:uc O G T cf): ∀m,Up O G T (dn cf T m)
 |0=>fun t r h=>by cases h
 |m+1=>fun t r h=>by
  have ih:=q8 vC m
  have h:Jd cf T (dn cf T m) t=some r:=h
  cases t with
  |code c ro fr=>obtain ⟨N,hN⟩:=xy ih h;exact ⟨N+1,hN⟩
  |run ops dr fl l fr=>obtain ⟨N,hN⟩:=zd ih h;exact ⟨N+1,hN⟩
  |call f args s=>
   have h:CT cf f args s=some r:=h
   unfold CT at h
   split at h
   ·rename_i hle
    split at h
    ·rename_i v s' hc
     cases h
     obtain ⟨N,q,h1,h2⟩:=vC f args s _ hc (by simpa [Nat.ble_eq] using hle)
     split at h2
     ·obtain ⟨h2,_⟩:=h2
      cases h2
      exact ⟨N,h1⟩
     ·exact h2.elim
    ·cases h
   ·cases h
  |round l args s=>obtain ⟨N,hN⟩:=vh ih h;exact ⟨N+1,hN⟩
def MR (cf:CF) (T:Types) (m:Nat) (fn:Func) (args:List V) (s:S):bB:=
 match fn.body with
 |none=>none
 |some c=>match Nat.ble args.length fn.ntmps with
  |false=>none
  |true=>match dn cf T m (.code c none { e:=Tr.ofList .leaf 0 args,nt:=fn.ntmps,s:=s,ms:= [] }) with
   |some (.code .normal fr)=>He s (leave T fn fr)
   |some (.code .ret fr)=>He s (leave T fn fr)
   |_=>none
where He (s:S):Option ep→bB
 |some (.val v s')=>match Nat.ble s.n s'.n with
  |true=>some (packed s s' v)
  |false=>none
 |_=>none
theorem Be {cf:CF} (vC:uc O G T cf) {m f:Nat} {fn:Func} (hO:O f=none) (hf:G.get f=some fn) {args:List V} {s:S} {r:V×S} (h:MR cf T m fn args s=some r):
  Cl O G T f args s fun v s'=>(v,s')=r∧s.n≤s'.n:=by
 unfold MR at h
 split at h
 ·cases h
 ·rename_i c hc
  split at h
  ·cases h
  ·rename_i hlen
   have fin: ∀ {fr:F},MR.He s (leave T fn fr)=some r→ ∃v s₂,leave T fn fr=some (.val v s₂)∧((packed s s₂ v).1,(packed s s₂ v).2)=r∧s.n≤(packed s s₂ v).2.n:=by
    intro fr h
    unfold MR.He at h
    split at h
    ·rename_i v s' hl
     split at h
     ·rename_i hn
      cases h
      exact ⟨v,s',hl,rfl,xc _ _ _ (by simpa [Nat.ble_eq] using hn)⟩
     ·cases h
    ·cases h
   split at h
   ·rename_i fr hd
    obtain ⟨N,hN⟩:=q8 vC m _ _ hd
    exact Cs hO hf hc hlen ⟨N,_,hN,fin h⟩
   ·rename_i fr hd
    obtain ⟨N,hN⟩:=q8 vC m _ _ hd
    exact Cs hO hf hc hlen ⟨N,_,hN,fin h⟩
   ·cases h
end Go.Vm.X
end
noncomputable section
namespace Go.Vm.X
open Go
variable {O:aL} {G:Tr Func} {T:Types}
abbrev Fn:=CF→Nat→List V→S→bB
def cc (O:aL) (G:Tr Func) (T:Types) (f:Nat) (F:Fn):Prop:= ∀cf,uc O G T cf→ ∀n args s r,F cf n args s=some r→s.wm≤s.n→Cl O G T f args s fun v s'=>(v,s')=r∧s.n≤s'.n
theorem cc.den {f:Nat} {F:Fn} {fn:Func} (hO:O f=none) (hf:G.get f=some fn) (h: ∀cf n args s r,F cf n args s=some r→sJ cf T n fn args s=some r):cc O G T f F:=
 fun cf vC n args s r hr hw=>yg vC hO hf (h cf n args s r hr) hw
theorem cc.dn {f:Nat} {fn:Func} (hO:O f=none) (hf:G.get f=some fn) (m:Nat):cc O G T f fun cf _ args s=>MR cf T m fn args s:=
 fun cf vC n args s r hr _=>Be vC hO hf hr
def N3 (O:aL) (G:Tr Func) (T:Types) (Fu:Tr Fn):Prop:= ∀f F,Fu.get f=some F→cc O G T f F
theorem zw {Fu:Tr Fn} (h:N3 O G T Fu) (n:Nat): ∀m,uc O G T (Ws Fu n m)
 |0=>fun f args s r hr=>by cases hr
 |m+1=>fun f args s r hr hw=>by
  have hr:(match Fu.get f with
   |some F=>F (Ws Fu n m) n args s
   |none=>none)=some r:=hr
  split at hr
  ·rename_i F hF
   exact h f F hF _ (zw h n m) _ _ _ _ hr hw
  ·cases hr
inductive lB (O:aL) (G:Tr Func) (T:Types):Tr Fn→(Nat→Nat)→Prop
 |leaf (g:Nat→Nat):lB O G T .leaf g
 |node (l:Tr Fn) (v:Option Fn) (r:Tr Fn) (g:Nat→Nat) (h: ∀F,v=some F→cc O G T (g 0) F) (hl:lB O G T l (fun j=>g (2*j+1))) (hr:lB O G T r (fun j=>g (2*j+2))):lB O G T (.node l v r) g
theorem lB.get {O:aL} {t:Tr Fn} {g:Nat→Nat} (h:lB O G T t g): ∀f F,t.get f=some F→cc O G T (g f) F:=by
 induction h with
 |leaf g=>intro f F hF;rw [Tr.fu] at hF;cases hF
 |node l v r g h _ _ YF YG=>
  intro f F hF
  rw [Tr.iz] at hF
  cases f with
  |zero=>exact h F hF
  |succ k=>
   simp only [] at hF
   cases hb:Nat.beq (k % 2) 0 with
   |true=>
    rw [hb] at hF
    have h1:cc O G T (g (2*(k / 2)+1)) F:=YF _ _ hF
    have h2:k % 2=0:=Nat.eq_of_beq_eq_true hb
    have h3:2*(k / 2)+1=k+1:=by omega
    rwa [h3] at h1
   |false=>
    rw [hb] at hF
    have h1:cc O G T (g (2*(k / 2)+2)) F:=YG _ _ hF
    have h2:k % 2≠0:=fun e=>by rw [e] at hb;cases hb
    have h3:2*(k / 2)+2=k+1:=by omega
    rwa [h3] at h1
theorem lB.Wv {O:aL} {t:Tr Fn} (h:lB O G T t fun j=>j):N3 O G T t:=fun f F hF=>h.get f F hF
end Go.Vm.X
end
noncomputable section
namespace Go.Vm
open Go
def tl {α:Type} :Tr α:= .leaf
def t1 {α:Type} (x:α):Tr α:= .node .leaf (some x) .leaf
def t2 {α:Type} (l r:Tr α):Tr α:= .node l none r
def t3 {α:Type} (l:Tr α) (x:α) (r:Tr α):Tr α:= .node l (some x) r
def zI:Value:= .int .i64 0
def zB:Value:= .bool false
def zS:Value:= .slice none 0 0
def zP:Value:= .pointer none
def zF:Value:= .nilFunc
def zJ:Value:= .nilIface
def zM:Value:= .map none
def zT:Value:= .string { data:= #[] }
def tS (e:Nat):TI:=⟨.slice e,1,24,zS⟩
def tP (e:Nat):TI:=⟨.pointer e,1,8,zP⟩
def tM (k v:Nat):TI:=⟨.map k v,1,8,zM⟩
def tI (k:IntKind) (b:Nat):TI:=⟨.int k,1,b,.int k 0⟩
def tF:TI:=⟨.func,1,8,zF⟩
def tJ:TI:=⟨.iface,1,16,zJ⟩
def tB:TI:=⟨.bool,1,1,zB⟩
def tT:TI:=⟨.string,1,16,zT⟩
def TP:Value→Value→Bool
 | .bool a,.bool b=>decide (a=b)
 | .int k a,.int l b=>decide (k=l) && decide (a=b)
 | .string a,.string b=>decide (a.data.toList=b.data.toList)
 | .pointer none,.pointer none=>true
 | .slice none a b,.slice none c d=>decide (a=c) && decide (b=d)
 | .map none,.map none=>true
 | .nilFunc,.nilFunc=>true
 | .nilIface,.nilIface=>true
 |_,_=>false
theorem Dl {a b:Value} (h:TP a b=true):a=b:=by
 unfold TP at h
 split at h<;>try simp only [Bool.and_eq_true,decide_eq_true_eq] at h
 ·rw [h]
 ·rw [h.1,h.2]
 ·rename_i a b
  obtain ⟨⟨a⟩⟩:=a
  obtain ⟨⟨b⟩⟩:=b
  simp only at h
  rw [h]
 ·rfl
 ·rw [h.1,h.2]
 ·rfl
 ·rfl
 ·rfl
 ·cases h
def TO:List Value→List Value→Bool
 | [], []=>true
 |a::l,b::l'=>TP a b && TO l l'
 |_,_=>false
theorem Dk: ∀ {a b:List Value},TO a b=true→a=b
 | [], [],_=>rfl
 | [],_::_,h=>by cases h
 |_::_, [],h=>by cases h
 |a::l,b::l',h=>by
  simp only [TO,Bool.and_eq_true] at h
  rw [Dl h.1,Dk h.2]
def Ww:Value→Value→Bool
 | .agg ⟨l⟩,.agg ⟨l'⟩=>TO l l'
 |a,b=>TP a b
theorem J1 {a b:Value} (h:Ww a b=true):a=b:=by
 unfold Ww at h
 split at h
 ·rw [Dk h]
 ·exact Dl h
def Er:TK→TypeDesc→Bool
 | .int k,.int k'=>decide (k=k')
 | .bool,.bool=>true
 | .string,.string=>true
 | .slice e,.slice e'=>decide (e=e')
 | .array n e,.array n' e'=>decide (n=n') && decide (e=e')
 | .struct fs,.struct fields=>decide (fs=fields.toList.map fun f=>(f.type,f.offset))
 | .pointer e,.pointer e'=>decide (e=e')
 | .map k v,.map k' v'=>decide (k=k') && decide (v=v')
 | .func,.func _ _ _=>true
 | .iface,.interface _=>true
 |_,_=>false
theorem Et {k:TK} {d:TypeDesc} (h:Er k d=true):kindOk k d:=by
 unfold Er at h
 split at h<;>(try simp only [Bool.and_eq_true,decide_eq_true_eq] at h)<;>first|exact h|trivial|cases h
def ZZ (P:Program) (t:Nat) (ti:TI):Bool:=
 match P.info? t,P.underlying t with
 |some i,some d=>decide (i.size=ti.size) && decide (i.bytes=ti.bytes) && (match i.zero with
  |some z=>Ww z ti.zero
  |none=>false) && Er ti.kind d && iM ti.zero && decide ((bc ti.zero).length=ti.size) && (match ti.kind with
  | .struct fs=>fs.all fun x=>(P.info? x.1).isSome
  |_=>true)
 |_,_=>false
theorem Mr {P:Program} {t:Nat} {ti:TI} (h:ZZ P t ti=true):iv P t ti:=by
 unfold ZZ at h
 split at h
 ·rename_i i d hi hd
  simp only [Bool.and_eq_true,decide_eq_true_eq] at h
  obtain ⟨⟨⟨⟨⟨⟨h1,h2⟩,h3⟩,h4⟩,h5⟩,h6⟩,h7⟩:=h
  split at h3
  ·rename_i z hz
   refine ⟨⟨i,hi,h1,h2,by rw [hz,J1 h3]⟩,⟨d,hd,Et h4⟩,h5,h6,fun fs hf x hx=> ?_⟩
   rw [hf] at h7
   exact List.all_eq_true.1 h7 x hx
  ·cases h3
 ·cases h
def CG {α:Type} (p:Nat→α→Bool):Tr α→Nat→Nat→Bool
 | .leaf,_,_=>true
 | .node l v r,m,a=>(match v with
  |some x=>p a x
  |none=>true) && CG p l (2*m) (m+a) && CG p r (2*m) (2*m+a)
theorem CH {α:Type} {p:Nat→α→Bool} : ∀ {t:Tr α} {m a j:Nat} {x:α},CG p t m a=true→t.get j=some x→p (m*j+a) x=true:=by
 intro t
 induction t with
 |leaf=>intro m a j x _ h;rw [Tr.fu] at h;cases h
 |node l v r YF YG=>
  intro m a j x h hg
  simp only [CG,Bool.and_eq_true] at h
  rw [Tr.iz] at hg
  cases j with
  |zero=>
   simp only [] at hg
   subst hg
   simpa using h.1.1
  |succ k=>
   simp only [] at hg
   have e2:2*m*(k / 2)=m*(2*(k / 2)):=by rw [Nat.mul_comm 2 m,Nat.mul_assoc]
   cases hb:Nat.beq (k % 2) 0 with
   |true=>
    rw [hb] at hg
    have:=YF h.1.2 hg
    have h2:k % 2=0:=Nat.eq_of_beq_eq_true hb
    have h3:2*(k / 2)=k:=by omega
    rw [e2,h3] at this
    rwa [Nat.mul_succ,Nat.add_assoc]
   |false=>
    rw [hb] at hg
    have:=YG h.2 hg
    have h2:k % 2≠0:=fun e=>by rw [e] at hb;cases hb
    have h3:2*(k / 2)+1=k:=by omega
    have h4:m*(k+1)+a=2*m*(k / 2)+(2*m+a):=by
     rw [e2,←h3,Nat.mul_succ,Nat.mul_succ]
     have:2*(2*(k / 2)+1) / 2=2*(k / 2)+1:=by omega
     have h5:(2*(k / 2)+1) / 2=k / 2:=by omega
     rw [h5]
     omega
    rwa [h4]
theorem Mo {P:Program} {T:Types} (h:CG (ZZ P) T 1 0=true):lG P T:=fun t ti ht=>by
 have:=CH h ht
 rw [Nat.one_mul,Nat.add_zero] at this
 exact Mr this
def Du (ng:Nat) (fn:Func):Bool:= !(fn.name == "runtime.NumGoroutine") && match fn.body with
 |some c=>codeOk ng c
 |none=>true
def wZ (ok:Func→Bool):Tr Func→Nat→List Func→Tr Func
 |t,_, []=>t
 |t,i,x::xs=>wZ ok (match ok x with
  |true=>t.set i x
  |false=>t) (i+1) xs
theorem pG (ok:Func→Bool): ∀(xs:List Func) (t:Tr Func) (i j:Nat),(∀k,i≤k→t.get k=none)→(wZ ok t i xs).get j=if j<i then t.get j else (xs[j - i]?).bind fun x=>match ok x with
  |true=>some x
  |false=>none
 | [],t,i,j,h=>by
  unfold wZ
  split
  ·rfl
  ·rw [h j (by omega)];simp
 |x::xs,t,i,j,h=>by
  unfold wZ
  cases hx:ok x with
  |true=>
   simp only []
   rw [pG ok xs (t.set i x) (i+1) j (fun k hk=>by rw [Tr.gv,if_neg (by omega)];exact h k (by omega))]
   by_cases h1:j=i
   ·subst h1
    rw [if_pos (by omega),Tr.gv,if_pos rfl,if_neg (by omega),Nat.sub_self]
    simp [hx]
   ·by_cases h2:j<i
    ·rw [if_pos (by omega),if_pos h2,Tr.gv,if_neg h1]
    ·rw [if_neg (by omega),if_neg h2,show j - i=(j - (i+1))+1 by omega];simp
  |false=>
   simp only []
   rw [pG ok xs t (i+1) j (fun k hk=>h k (by omega))]
   by_cases h1:j=i
   ·subst h1
    rw [if_pos (by omega),if_neg (by omega),Nat.sub_self,h j (Nat.le_refl _)]
    simp [hx]
   ·by_cases h2:j<i
    ·rw [if_pos (by omega),if_pos h2]
    ·rw [if_neg (by omega),if_neg h2,show j - i=(j - (i+1))+1 by omega];simp
def wo (ng:Nat) (P:Program):Tr Func:=wZ (Du ng) .leaf 0 P.funcs.toList
theorem wv (ng:Nat) (P:Program) (f:Nat):(wo ng P).get f=(P.funcs[f]?).bind fun x=>match Du ng x with
  |true=>some x
  |false=>none:=by
 unfold wo
 rw [pG _ _ _ _ _ (fun k _=>Tr.fu k),if_neg (by omega),Nat.sub_zero,Array.getElem?_toList]
theorem Bi {ng:Nat} {P:Program} {f:Nat} {fn:Func} (h:P.funcs[f]? =some fn) (h':Du ng fn=true):(wo ng P).get f=some fn:=by
 rw [wv,h]
 simp [h']
theorem Kb (ng:Nat) (P:Program):Ic ng P (wo ng P):=fun f fn h=>by
 rw [wv] at h
 cases hf:P.funcs[f]? with
 |none=>rw [hf] at h;cases h
 |some x=>
  rw [hf] at h
  simp only [Option.bind_some] at h
  split at h
  ·rename_i hx
   cases h
   unfold Du at hx
   rw [Bool.and_eq_true,Bool.not_eq_true'] at hx
   refine ⟨rfl,hx.1,fun c hc=> ?_⟩
   have:=hx.2
   rw [hc] at this
   exact this
  ·cases h
end Go.Vm
end
noncomputable section
namespace Go.Vm.X
open Go Go.Vm
variable {O:aL} {G:Tr Func} {T:Types} {f:Nat} {fn:Func}
def ML (F:CF→Nat→S→bB):Fn:=fun c n l s=>match l with
 | []=>F c n s
 |_=>none
theorem cc.ML {F:CF→Nat→S→bB} (hO:O f=none) (hf:G.get f=some fn) (h: ∀c n s,F c n s=sJ c T n fn [] s):cc O G T f (ML F):=cc.den hO hf fun c n l s r e=>by
 unfold X.ML at e
 split at e
 ·rw [h] at e;exact e
 ·cases e
def cR (F:CF→Nat→V→S→bB):Fn:=fun c n l s=>match l with
 | [a0]=>F c n a0 s
 |_=>none
theorem cc.cR {F:CF→Nat→V→S→bB} (hO:O f=none) (hf:G.get f=some fn) (h: ∀c n a0 s,F c n a0 s=sJ c T n fn [a0] s):cc O G T f (cR F):=cc.den hO hf fun c n l s r e=>by
 unfold X.cR at e
 split at e
 ·rw [h] at e;exact e
 ·cases e
def bR (F:CF→Nat→V→V→S→bB):Fn:=fun c n l s=>match l with
 | [a0,a1]=>F c n a0 a1 s
 |_=>none
theorem cc.bR {F:CF→Nat→V→V→S→bB} (hO:O f=none) (hf:G.get f=some fn) (h: ∀c n a0 a1 s,F c n a0 a1 s=sJ c T n fn [a0,a1] s):cc O G T f (bR F):=cc.den hO hf fun c n l s r e=>by
 unfold X.bR at e
 split at e
 ·rw [h] at e;exact e
 ·cases e
def pR (F:CF→Nat→V→V→V→S→bB):Fn:=fun c n l s=>match l with
 | [a0,a1,a2]=>F c n a0 a1 a2 s
 |_=>none
theorem cc.pR {F:CF→Nat→V→V→V→S→bB} (hO:O f=none) (hf:G.get f=some fn) (h: ∀c n a0 a1 a2 s,F c n a0 a1 a2 s=sJ c T n fn [a0,a1,a2] s):cc O G T f (pR F):=cc.den hO hf fun c n l s r e=>by
 unfold X.pR at e
 split at e
 ·rw [h] at e;exact e
 ·cases e
def Ih (F:CF→Nat→V→V→V→V→S→bB):Fn:=fun c n l s=>match l with
 | [a0,a1,a2,a3]=>F c n a0 a1 a2 a3 s
 |_=>none
theorem cc.Ih {F:CF→Nat→V→V→V→V→S→bB} (hO:O f=none) (hf:G.get f=some fn) (h: ∀c n a0 a1 a2 a3 s,F c n a0 a1 a2 a3 s=sJ c T n fn [a0,a1,a2,a3] s):cc O G T f (Ih F):=cc.den hO hf fun c n l s r e=>by
 unfold X.Ih at e
 split at e
 ·rw [h] at e;exact e
 ·cases e
def MM (F:CF→Nat→V→V→V→V→V→S→bB):Fn:=fun c n l s=>match l with
 | [a0,a1,a2,a3,a4]=>F c n a0 a1 a2 a3 a4 s
 |_=>none
theorem cc.MM {F:CF→Nat→V→V→V→V→V→S→bB} (hO:O f=none) (hf:G.get f=some fn) (h: ∀c n a0 a1 a2 a3 a4 s,F c n a0 a1 a2 a3 a4 s=sJ c T n fn [a0,a1,a2,a3,a4] s):cc O G T f (MM F):=cc.den hO hf fun c n l s r e=>by
 unfold X.MM at e
 split at e
 ·rw [h] at e;exact e
 ·cases e
theorem k1 {F:Fn} {g:Nat→Nat} (h:cc O G T (g 0) F):lB O G T (t1 F) g:= .node _ _ _ _ (fun F' e=>by cases e;exact h) (.leaf _) (.leaf _)
theorem k2 {l r:Tr Fn} {g:Nat→Nat} (hl:lB O G T l (fun j=>g (2*j+1))) (hr:lB O G T r (fun j=>g (2*j+2))):lB O G T (t2 l r) g:= .node _ _ _ _ (fun F' e=>by cases e) hl hr
theorem k3 {l r:Tr Fn} {F:Fn} {g:Nat→Nat} (hl:lB O G T l (fun j=>g (2*j+1))) (h:cc O G T (g 0) F) (hr:lB O G T r (fun j=>g (2*j+2))):lB O G T (t3 l F r) g:= .node _ _ _ _ (fun F' e=>by cases e;exact h) hl hr
end Go.Vm.X
end
noncomputable section
namespace Go.Proofs.bt
open Go Go.Vm Go.Proofs
set_option maxRecDepth 100000
def iV:TI:=tI .i64 8
def iE:TI:=tI .u8 1
def BV:TI:=tS 3
def Fx:TI:=⟨.struct [(43,0),(43,2)],4,64,.agg ⟨[zB,zS,zB,zS]⟩⟩
def mP:TI:=⟨.struct [(47,0),(47,8)],16,256,.agg ⟨[zB,zS,zB,zS,zB,zS,zB,zS,zB,zS,zB,zS,zB,zS,zB,zS]⟩⟩
def sw:TI:=⟨.struct [(47,0),(47,8)],16,256,.agg ⟨[zB,zS,zB,zS,zB,zS,zB,zS,zB,zS,zB,zS,zB,zS,zB,zS]⟩⟩
def types:Types:=
 (t2 (t3 (t3 (t3 (t3 (t3 (t3 (t3 (t1 ⟨.struct [(3,0),(3,1),(3,2),(3,3),(45,4),(254,8),(254,9),(45,10),(45,14)],18,272,.agg ⟨[zI,zI,zI,zI,zB,zS,zB,zS,zS,zS,
 zB,zS,zB,zS,zB,zS,zB,zS]⟩⟩) tF tl) tF tl) (tS 4) (t3 (t3 (t1 tF) (tS 162) tl) (tS 94) (t3 (t1 tF) (tS 389) tl))) (tP 494) (t3 (t3 (t3 (t1 tF) tF tl) tF (t3 tl tF (t1 tF))) ⟨.struct
 [(45,0),(45,4)],8,128,.agg ⟨[zB,zS,zB,zS,zB,zS,zB,zS]⟩⟩ (t3 (t2 (t1 tF) tl) tF (t3 tl tF (t1 ⟨.array 0 16,0,0,.agg ⟨[]⟩⟩))))) ⟨.struct [(2,0),(3,1),(4,2),(6,3)],
 4,24,.agg ⟨[zI,zI,zB,.int .u8 0]⟩⟩ (t3 (t3 (t3 (t3 (t2 (t1 tF) tl) tF tl) tF (t3 (t1 ⟨.struct [(326,0)],1,24,.agg ⟨[zS]⟩⟩) ⟨.array 2 45,8,128,.agg ⟨[zB,zS,zB,zS,zB,
 zS,zB,zS]⟩⟩ (t1 tF))) tF (t3 (t1 ⟨.struct [(33,0),(30,4),(30,5)],6,128,.agg ⟨[zI,zS,zS,zS,zS,zS]⟩⟩) tF (t2 (t1 (tM 3 22)) tl))) (tS 130) (t3 (t3 (t3 (t1 tF) tF tl) ⟨.struct
 [(83,0),(47,1),(86,9),(45,10),(45,14)],18,304,.agg ⟨[zS,zB,zS,zB,zS,zB,zS,zB,zS,zS,zB,zS,zB,zS,zB,zS,zB,zS]⟩⟩ (t3 (t1 tF) tF tl)) ⟨.struct [(3,0),(3,
 1),(3,2),(22,3),(53,4)],5,72,.agg ⟨[zI,zI,zI,zS,zS]⟩⟩ (t3 (t3 (t1 tF) tF tl) tF (t3 tl tF (t1 (tI .i32 4))))))) iV (t3 (t3 (t3 (t3 (t3 (t2 (t1 (tM 3 45)) tl) ⟨.struct
 [(3,0),(45,1),(45,5),(45,9)],13,200,.agg ⟨[zI,zB,zS,zB,zS,zB,zS,zB,zS,zB,zS,zB,zS]⟩⟩ tl) tF (t3 tl tF (t1 tF))) (tS 49) (t3 (t3 (t1 tF) tF tl) ⟨.struct [(3,0),
 (3,1),(47,2),(47,10),(95,18),(45,19)],23,360,.agg ⟨[zI,zI,zB,zS,zB,zS,zB,zS,zB,zS,zB,zS,zB,zS,zB,zS,zB,zS,zS,zB,zS,zB,zS]⟩⟩ (t3 (t1 tF) tF tl))) ⟨.struct
 [(17,0)],1,8,.agg ⟨[zP]⟩⟩ (t3 (t3 (t3 (t1 tF) tF (t1 tF)) (tS 82) (t3 (t1 tF) tF tl)) (tS 37) (t3 (t2 (t1 tF) tl) tF (t3 tl tF (t1 (tI .u8 1)))))) tT (t3 (t3 (t3 (t1 tF) tF (t3
 tl ⟨.struct [(200,0),(201,1)],2,16,.agg ⟨[zF,zF]⟩⟩ (t1 tF))) ⟨.struct [(4,0),(22,1)],2,32,.agg ⟨[zB,zS]⟩⟩ (t3 tl tF (t3 (t1 ⟨.struct [(22,0),(222,1)],2,48,.agg ⟨[zS,
 zS]⟩⟩) tF tl))) ⟨.struct [(23,0),(24,1),(25,2),(26,3)],4,96,.agg ⟨bz 4 [zS]⟩⟩ (t2 (t3 (t3 (t1 tF) tF tl) tF (t3 (t1 tF) (tS 225) tl)) (t3 (t3 (t1 tF) tF tl) tF (t1 ⟨.struct
 [(28,0),(33,4),(30,8),(250,9)],10,208,.agg ⟨[zS,zS,zS,zS,zI,zS,zS,zS,zS,zM]⟩⟩)))))) tF (t3 (t3 (t3 (t3 (t3 (t1 ⟨.struct [(45,0),(45,4),(4,8),(45,9),(45,13)],
 17,264,.agg ⟨[zB,zS,zB,zS,zB,zS,zB,zS,zB,zB,zS,zB,zS,zB,zS,zB,zS]⟩⟩) tF (t3 tl tF (t1 ⟨.struct [(45,0),(45,4),(45,8)],12,192,.agg ⟨[zB,zS,zB,zS,zB,zS,
 zB,zS,zB,zS,zB,zS]⟩⟩))) ⟨.struct [(3,0),(30,1),(30,2),(31,3)],4,80,.agg ⟨[zI,zS,zS,zS]⟩⟩ (t3 (t3 (t1 tF) ⟨.struct [(108,0)],16,256,.agg ⟨[zB,zS,zB,zS,zB,zS,
 zB,zS,zB,zS,zB,zS,zB,zS,zB,zS]⟩⟩ tl) tF (t1 ⟨.struct [(3,0),(22,1),(222,2),(223,3),(30,4),(45,5)],9,168,.agg ⟨[zI,zS,zS,zS,zS,zB,zS,zB,zS]⟩⟩))) (tP 506)
 (t3 (t3 (t3 (t1 ⟨.struct [(28,0),(33,4)],8,176,.agg ⟨[zS,zS,zS,zS,zI,zS,zS,zS]⟩⟩) tF tl) ⟨.struct [(3,0),(3,1)],2,16,.agg ⟨[zI,zI]⟩⟩ (t2 tl (t1 (tP 468)))) mP
 (t3 (t3 (t1 tF) tF tl) tF (t3 tl tF (t1 ⟨.struct [(495,0)],0,0,.agg ⟨[]⟩⟩))))) tT (t3 (t3 (t3 (t3 (t1 tF) tF tl) tF (t3 (t1 ⟨.struct [(3,0),(30,1)],2,32,.agg ⟨[zI,zS]⟩⟩)
 tF (t1 tF))) (tI .u64 8) (t3 (t3 (t1 tF) tF tl) tF tl)) (tS 99) (t3 (t2 (t3 (t1 tF) tF tl) (t3 (t1 (tI .i64 8)) (tP 162) tl)) tF (t3 (t3 (t1 tF) tF tl) tF (t3 (t1 (tS 386)) tF tl)))))
 iE (t3 (t3 (t3 (t3 (t3 tl tF (t1 ⟨.struct [(45,0),(45,4)],8,128,.agg ⟨[zB,zS,zB,zS,zB,zS,zB,zS]⟩⟩)) tF (t2 (t1 tF) (t1 tF))) ⟨.struct [(3,0),(3,1),(3,2),(22,3),
 (35,4)],5,72,.agg ⟨[zI,zI,zI,zS,zS]⟩⟩ (t3 (t3 (t1 tF) tF (t1 ⟨.struct [],0,0,.agg ⟨[]⟩⟩)) tF (t3 tl tF (t1 tF)))) (tI .i32 4) (t3 (t3 (t3 (t1 tF) tF (t1 (tI .u64 8))) tF
 (t3 (t1 tF) tF (t1 tF))) (tS 108) (t3 (t1 tF) tF (t3 tl tF (t1 tF))))) ⟨.struct [(9,0),(12,1)],2,24,.agg ⟨[zT,.int .u64 0]⟩⟩ (t3 (t3 (t3 (t1 (tS 190)) (tS 70) (t3 (t1 (tS 30))
 tF (t1 tF))) Fx (t3 (t3 (t1 tF) tF tl) tF (t1 tF))) tF (t2 (t3 (t2 (t1 tF) tl) ⟨.struct [(3,0),(3,1),(3,2)],3,24,.agg ⟨bz 3 [zI]⟩⟩ (t3 (t1 tF) tF tl)) (t2 (t3 (t1 ⟨.struct
 [(315,0),(277,1)],2,16,.agg ⟨[zF,zF]⟩⟩) ⟨.struct [(94,0),(3,3)],4,32,.agg ⟨bz 4 [zI]⟩⟩ tl) (t1 tF))))))) (t3 (t3 (t3 (t3 (t3 (t3 (t3 (t1 ⟨.struct [(3,0),(3,1),(3,
 2),(3,3),(45,4),(254,8),(254,9),(45,10),(45,14)],18,272,.agg ⟨[zI,zI,zI,zI,zB,zS,zB,zS,zS,zS,zB,zS,zB,zS,zB,zS,zB,zS]⟩⟩) tF tl) tF (t3 (t1 ⟨.struct [(3,
 0),(45,1)],5,72,.agg ⟨[zI,zB,zS,zB,zS]⟩⟩) tF tl)) ⟨.struct [(3,0),(30,1),(30,2),(31,3)],4,80,.agg ⟨[zI,zS,zS,zS]⟩⟩ (t3 (t3 (t1 (tS 22)) (tS 163) (t1 (tS 254)))
 tF (t3 (t1 (tI .u32 4)) ⟨.struct [(3,0),(22,1),(222,2),(223,3),(30,4),(45,5)],9,168,.agg ⟨[zI,zS,zS,zS,zS,zB,zS,zB,zS]⟩⟩ tl))) (tP 497) (t3 (t3 (t2 (t1 tF) tl)
 tF (t3 (t1 tF) tF tl)) ⟨.struct [(47,0),(47,8)],16,256,.agg ⟨[zB,zS,zB,zS,zB,zS,zB,zS,zB,zS,zB,zS,zB,zS,zB,zS]⟩⟩ (t3 (t3 (t1 (tM 100 4)) tF tl) tF (t1 tF)))) ⟨.struct
 [(2,0),(3,1),(4,2),(6,3)],4,24,.agg ⟨[zI,zI,zB,.int .u8 0]⟩⟩ (t3 (t3 (t3 (t1 tF) tF (t3 (t1 ⟨.struct [(326,0)],1,24,.agg ⟨[zS]⟩⟩) tF (t1 tF))) tF (t3 (t1 ⟨.struct [(33,
 0),(30,4),(30,5)],6,128,.agg ⟨[zI,zS,zS,zS,zS,zS]⟩⟩) tF (t1 tF))) (tS 88) (t3 (t3 (t3 (t1 tF) tF tl) ⟨.struct [(83,0),(47,1),(86,9),(45,10),(45,14)],18,304,.agg
 ⟨[zS,zB,zS,zB,zS,zB,zS,zB,zS,zS,zB,zS,zB,zS,zB,zS,zB,zS]⟩⟩ (t3 (t1 tF) tF tl)) tF (t3 (t3 (t1 tF) tF tl) tF (t3 tl tF (t1 (tI .i32 4))))))) tB (t3 (t3 (t3 (t3 (t1 ⟨.struct
 [(3,0),(45,1),(45,5),(45,9)],13,200,.agg ⟨[zI,zB,zS,zB,zS,zB,zS,zB,zS,zB,zS,zB,zS]⟩⟩) tF (t3 (t1 tF) tF (t1 tF))) ⟨.struct [(3,0),(3,1),(3,2),(22,3),(35,
 4)],5,72,.agg ⟨[zI,zI,zI,zS,zS]⟩⟩ (t3 (t3 (t1 (tS 222)) tF (t1 tF)) ⟨.array 2 3,2,16,.agg ⟨[zI,zI]⟩⟩ tl)) tJ (t3 (t3 (t2 (t1 tF) tl) tF (t3 (t1 tF) (tS 203) (t1 ⟨.struct
 [(3,0),(3,1),(3,2),(333,3),(30,4),(22,5)],6,96,.agg ⟨[zI,zI,zI,zS,zS,zS]⟩⟩))) tF (t3 (t3 (t1 tF) tF tl) tF (t3 tl tF (t1 (tI .u8 1)))))) (tI .u64 8) (t3 (t3 (t3 (t3
 (t1 tF) tF tl) tF (t3 tl ⟨.array 2 203,4,32,.agg ⟨bz 4 [zF]⟩⟩ (t1 tF))) ⟨.struct [(43,0),(43,2)],4,64,.agg ⟨[zB,zS,zB,zS]⟩⟩ (t3 (t3 (t1 (tS 45)) tF tl) sw (t1 tF)))
 ⟨.struct [(23,0),(24,1),(25,2),(26,3)],4,96,.agg ⟨bz 4 [zS]⟩⟩ (t3 (t3 (t3 (t1 tF) tF tl) tF (t2 (t1 tF) tl)) tF (t3 (t1 tF) ⟨.array 4 45,16,256,.agg ⟨[zB,zS,zB,zS,
 zB,zS,zB,zS,zB,zS,zB,zS,zB,zS,zB,zS]⟩⟩ (t1 ⟨.struct [(28,0),(33,4),(30,8),(250,9)],10,208,.agg ⟨[zS,zS,zS,zS,zI,zS,zS,zS,zS,zM]⟩⟩)))))) (tI .i64 8) (t3
 (t3 (t3 (t3 (t3 (t3 (t1 ⟨.struct [(3,0),(3,1),(3,2),(3,3)],4,32,.agg ⟨bz 4 [zI]⟩⟩) ⟨.struct [(45,0),(45,4),(4,8),(45,9),(45,13)],17,264,.agg ⟨[zB,zS,zB,zS,
 zB,zS,zB,zS,zB,zB,zS,zB,zS,zB,zS,zB,zS]⟩⟩ (t1 ⟨.struct [(3,0),(3,1)],2,16,.agg ⟨[zI,zI]⟩⟩)) tF (t3 tl tF (t1 tF))) tF (t3 (t3 (t1 tF) ⟨.struct [(108,0)],16,256,.agg
 ⟨[zB,zS,zB,zS,zB,zS,zB,zS,zB,zS,zB,zS,zB,zS,zB,zS]⟩⟩ tl) ⟨.struct [(3,0),(3,1),(47,2),(47,10),(95,18),(45,19)],23,360,.agg ⟨[zI,zI,zB,zS,zB,zS,zB,
 zS,zB,zS,zB,zS,zB,zS,zB,zS,zB,zS,zS,zB,zS,zB,zS]⟩⟩ (t1 (tI .u64 8)))) ⟨.struct [(17,0)],1,8,.agg ⟨[zP]⟩⟩ (t3 (t3 (t3 (t1 ⟨.struct [(28,0),(33,4)],8,176,.agg
 ⟨[zS,zS,zS,zS,zI,zS,zS,zS]⟩⟩) tF (t1 tF)) ⟨.struct [(3,0),(3,1)],2,16,.agg ⟨[zI,zI]⟩⟩ (t3 (t1 tF) tF tl)) tF (t3 (t3 (t1 tF) tF tl) tF (t1 tF)))) tT (t3 (t3 (t2 (t3 (t1
 tF) tF tl) (t3 (t1 ⟨.struct [(3,0),(30,1)],2,32,.agg ⟨[zI,zS]⟩⟩) ⟨.struct [(200,0),(201,1)],2,16,.agg ⟨[zF,zF]⟩⟩ (t1 tF))) ⟨.struct [(4,0),(22,1)],2,32,.agg ⟨[zB,
 zS]⟩⟩ (t3 (t3 (t1 tF) tF tl) tF (t3 (t1 ⟨.struct [(22,0),(222,1)],2,48,.agg ⟨[zS,zS]⟩⟩) tF tl))) (tS 100) (t3 (t3 (t1 tF) tF (t1 tF)) (tI .i64 8) (t2 (t3 (t1 tF) tF tl) (t3 (t1
 tF) (tM 258 4) (t1 ⟨.struct [(12,0),(12,1),(352,2),(499,3),(5,4),(5,5),(500,6),(501,7),(502,8),(503,9),(504,10)],11,48,.agg ⟨[.int .u64 0,.int .u64 0,.int .u32
 0,.int .u8 0,.int .u8 0,.int .u8 0,.int .u8 0,zF,zP,.int .i32 0,.int .i32 0]⟩⟩)))))) (tI .u8 1) (t3 (t3 (t3 (t3 (t1 tF) (tS 5) (t3 (t1 (tS 223)) tF (t1 (tP 405)))) tF (t3 (t3
 tl tF (t1 ⟨.struct [],0,0,.agg ⟨[]⟩⟩)) tF (t3 (t1 (tM 3 3)) tF tl))) BV (t3 (t3 (t3 (t1 ⟨.array 3 3,3,24,.agg ⟨bz 3 [zI]⟩⟩) tF tl) (tS 132) (t3 (t1 tF) tF tl)) ⟨.struct [(3,
 0),(3,1),(3,2),(22,3),(53,4)],5,72,.agg ⟨[zI,zI,zI,zS,zS]⟩⟩ (t3 (t1 tF) tF (t3 tl tF (t1 (tP 5)))))) ⟨.struct [(9,0),(12,1)],2,24,.agg ⟨[zT,.int .u64 0]⟩⟩ (t3
 (t3 (t2 (t3 (t1 tF) tF tl) (t3 tl tF (t1 tF))) ⟨.struct [(45,0),(45,4)],8,128,.agg ⟨[zB,zS,zB,zS,zB,zS,zB,zS]⟩⟩ (t3 (t3 (t1 tF) tF tl) tF (t3 tl tF (t1 ⟨.struct [(17,0),
 (17,1),(17,2),(9,3)],4,40,.agg ⟨[zP,zP,zP,zT]⟩⟩)))) (tS 45) (t3 (t3 (t3 (t1 tF) tF tl) ⟨.struct [(3,0),(3,1),(3,2)],3,24,.agg ⟨bz 3 [zI]⟩⟩ (t3 (t1 tF) (tS 256)
 tl)) tF (t3 (t3 (t1 (tM 3 317)) ⟨.struct [(94,0),(3,3)],4,32,.agg ⟨bz 4 [zI]⟩⟩ tl) tF (t1 (tS 320)))))))))
def y3:Option TI:=Tr.get types 3
def funcs:Tr Func:=wo 2 Tryz.prog
theorem tOk:lG Tryz.prog types:=Mo (by kernel_rfl)
theorem gOk:Ic 2 Tryz.prog funcs:=Kb _ _
theorem aG {f:Nat} {fn:Func} (h:Tryz.prog.funcs[f]? =some fn) (h':Du 2 fn=true):funcs.get f=some fn:=Bi h h'
end Go.Proofs.bt
end
