/-
  A part of the proof of PromiseBytes: lemmas, in short letters, printed by a program out of the longer texts; conditions: those that each lemma names.
-/
import Derived.Test.YtalmddmghdinkaaGreatDoorI
set_option linter.all false
set_option linter.deprecated false
noncomputable section
namespace Go.Vm.X
open Go
abbrev i64 (n:Int):V:= .int .i64 n
abbrev u8 (n:Int):V:= .int .u8 n
abbrev u64 (n:Int):V:= .int .u64 n
variable {T:Types}
theorem GP (k:IntKind) (t:Option TI) (a b:Int):bin .add t (.int k a) (.int k b)=some (.int k (k.wrap (a+b))):=by simp [bin,lift,Vm.bin,nJ,gb,da]
theorem G1 (k:IntKind) (t:Option TI) (a b:Int):bin .sub t (.int k a) (.int k b)=some (.int k (k.wrap (a - b))):=by simp [bin,lift,Vm.bin,nJ,gb,da]
theorem GW (k:IntKind) (t:Option TI) (a b:Int):bin .mul t (.int k a) (.int k b)=some (.int k (k.wrap (a*b))):=by simp [bin,lift,Vm.bin,nJ,gb,da]
theorem GY (k:IntKind) (t:Option TI) (a b:Int):bin .quo t (.int k a) (.int k b)=if b=0 then none else some (.int k (k.wrap (a.tdiv b))):=by
 by_cases h:b=0<;>simp [bin,lift,Vm.bin,nJ,gb,da,h]
theorem GZ (k:IntKind) (t:Option TI) (a b:Int):bin .rem t (.int k a) (.int k b)=if b=0 then none else some (.int k (a.tmod b)):=by
 by_cases h:b=0<;>simp [bin,lift,Vm.bin,nJ,gb,da,h]
theorem GQ (k:IntKind) (t:Option TI) (a b:Int):bin .eql t (.int k a) (.int k b)=some (.bool (a == b)):=by simp [bin,lift,Vm.bin,nJ,gb,da]
theorem GX (k:IntKind) (t:Option TI) (a b:Int):bin .neq t (.int k a) (.int k b)=some (.bool (a != b)):=by simp [bin,lift,Vm.bin,nJ,gb,da]
theorem GV (k:IntKind) (t:Option TI) (a b:Int):bin .lss t (.int k a) (.int k b)=some (.bool (decide (a<b))):=by simp [bin,lift,Vm.bin,nJ,gb,da]
theorem GU (k:IntKind) (t:Option TI) (a b:Int):bin .leq t (.int k a) (.int k b)=some (.bool (decide (a≤b))):=by simp [bin,lift,Vm.bin,nJ,gb,da]
theorem GS (k:IntKind) (t:Option TI) (a b:Int):bin .gtr t (.int k a) (.int k b)=some (.bool (decide (a>b))):=by simp [bin,lift,Vm.bin,nJ,gb,da]
theorem GR (k:IntKind) (t:Option TI) (a b:Int):bin .geq t (.int k a) (.int k b)=some (.bool (decide (a≥b))):=by simp [bin,lift,Vm.bin,nJ,gb,da]
theorem wrap64 {n:Int} (h1: -9223372036854775808≤n) (h2:n≤9223372036854775807):IntKind.i64.wrap n=n:=by
 simp only [IntKind.wrap,IntKind.bits,IntKind.signed]
 simp
 omega
def yI (T:Types) (rs:List ResultVar) (fr:F):Option (V×S):=
 match shut fr.ms fr.s with
 |none=>none
 |some s=>match cD T rs { fr with s:=s } with
  |some l=>some (fi l,s)
  |none=>none
def Ends (T:Types) (rs:List ResultVar) (s:S) (Q:V→S→Prop) (fr:F):Prop:=
 match yI T rs fr with
 |some (v,s₂)=>Q (packed s s₂ v).1 (packed s s₂ v).2
 |none=>False
theorem Ends.leave {T:Types} {fn:Func} {s:S} {Q:V→S→Prop} {fr:F} (h:Ends T fn.results.toList s Q fr): ∃v s₂,leave T fn fr=some (.val v s₂)∧Q (packed s s₂ v).1 (packed s s₂ v).2:=by
 unfold Ends yI at h
 unfold X.leave
 split at h
 ·rename_i v s₂ h1
  cases hs:shut fr.ms fr.s with
  |none=>rw [hs] at h1;cases h1
  |some s₁=>
   rw [hs] at h1
   simp only [] at h1 ⊢
   cases hl:cD T fn.results.toList { fr with s:=s₁ } with
   |none=>rw [hl] at h1;cases h1
   |some l=>
    rw [hl] at h1
    cases h1
    exact ⟨_,_,rfl,h⟩
 ·exact h.elim
theorem Np {O:aL} {G:Tr Func} {T:Types} {f:Nat} {fn:Func} {c:Code} {args:List V} {s:S} {Q:V→S→Prop} {nt:Nat} {rs:List ResultVar} (hO:O f=none) (hf:G.get f=some fn) (hb:fn.body=some c) (hnt:fn.ntmps=nt) (nU:fn.results.toList=rs)
  (hn:Nat.ble args.length nt=true) (h:C O G T c none ⟨Tr.ofList .leaf 0 args,nt,s, []⟩ (Ends T rs s Q) (fun _ _=>False) (Ends T rs s Q)):Cl O G T f args s Q:=by
 subst hnt nU
 exact Cs hO hf hb hn (h.mono (fun _ h=>h.leave) (fun _ _ h=>h) (fun _ h=>h.leave))
end Go.Vm.X
end
noncomputable section
namespace Go.Vm.X
open Go
abbrev bB:=Option (V×S)
def AF {β:Type} (n:Nat) (c:Nat→β):β:=
 match n with
 |0=>c 0
 |n+1=>c (n+1)
theorem sn {β:Type} (n:Nat) (c:Nat→β):AF n c=c n:=by cases n<;>rfl
def UI {β:Type} (i:Int) (c:Int→β):β:=
 match i with
 | .ofNat n=>AF n fun n=>c (.ofNat n)
 | .negSucc n=>AF n fun n=>c (.negSucc n)
theorem Mk {β:Type} (i:Int) (c:Int→β):UI i c=c i:=by
 cases i with
 |ofNat n=>simp only [UI,sn]
 |negSucc n=>simp only [UI,sn]
def SI {β:Type} (v:V) (c:V→β):β:=
 match v with
 | .int k n=>UI n fun n=>c (.int k n)
 | .bool b=>match b with
  |true=>c (.bool true)
  |false=>c (.bool false)
 | .ptr b o=>AF b fun b=>AF o fun o=>c (.ptr b o)
 | .sl b o l k z=>AF b fun b=>AF o fun o=>AF l fun l=>AF k fun k=>AF z fun z=>c (.sl b o l k z)
 | .iL cs l=>AF l fun l=>c (.iL cs l)
 |v=>c v
theorem Fm {β:Type} (v:V) (c:V→β):SI v c=c v:=by
 cases v<;>simp only [SI,sn,Mk]
 rename_i b
 cases b<;>rfl
def SJ {β:Type} (l:List V):(List V→β)→β:=
 List.rec (motive:=fun _=>(List V→β)→β) (fun c=>c []) (fun v _ ih c=>SI v fun v=>ih fun l=>c (v::l)) l
theorem Fo {β:Type} : ∀(l:List V) (c:List V→β),SJ l c=c l
 | [],_=>rfl
 |v::l,c=>by
  show (SI v fun v=>SJ l fun l=>c (v::l))=c (v::l)
  rw [Fm,Fo l]
def SK {β:Type} (v:V) (c:V→β):β:=
 match v with
 | .agg cs=>SJ cs fun cs=>c (.agg cs)
 | .dQ cs=>SJ cs fun cs=>c (.dQ cs)
 | .iL cs l=>SJ cs fun cs=>AF l fun l=>c (.iL cs l)
 |v=>SI v c
theorem vf {β:Type} (v:V) (c:V→β):SK v c=c v:=by
 cases v<;>simp only [SK,Fo,sn,Fm]
def sqH {β:Type} (h:Tr Obj) (c:Tr Obj→β):β:=
 match h with
 | .leaf=>c .leaf
 | .node l v r=>c (.node l v r)
theorem Mj {β:Type} (h:Tr Obj) (c:Tr Obj→β):sqH h c=c h:=by cases h<;>rfl
def UJ {β:Type} (s:S) (c:S→β):β:=
 match s with
 |⟨h,n,wm⟩=>AF n fun n=>AF wm fun wm=>sqH h fun h=>c ⟨h,n,wm⟩
theorem Fp {β:Type} (s:S) (c:S→β):UJ s c=c s:=by
 obtain ⟨h,n,wm⟩:=s
 simp only [UJ,sn,Mj]
def ae (o:Option V) (k:V→bB):bB:=
 match o with
 |some v=>SK v k
 |none=>none
def af (o:Option (V×S)) (k:V→S→bB):bB:=
 match o with
 |some (v,s)=>SK v fun v=>UJ s fun s=>k v s
 |none=>none
theorem lJ (o:Option V) (k:V→bB):ae o k=(match o with
 |some v=>k v
 |none=>none):=by
 cases o with
 |none=>rfl
 |some v=>simp only [ae,vf]
theorem lI (o:Option (V×S)) (k:V→S→bB):af o k=(match o with
 |some (v,s)=>k v s
 |none=>none):=by
 cases o with
 |none=>rfl
 |some p=>
  obtain ⟨v,s⟩:=p
  simp only [af,vf,Fp]
def ax (v:V) (a b:bB):bB:=
 match v with
 | .bool true=>a
 | .bool false=>b
 |_=>none
def ay (g:V) (want:Bool) (o:Option V):Option V:=
 match g with
 | .bool b=>match (b == want) with
  |true=>o
  |false=>some (.dQ [])
 | .dQ []=>some (.dQ [])
 |_=>none
def fT (g:V) (want:Bool) (o:Option (V×S)) (s:S):Option (V×S):=
 match g with
 | .bool b=>match (b == want) with
  |true=>o
  |false=>some (.dQ [],s)
 | .dQ []=>some (.dQ [],s)
 |_=>none
def bn (c a b:V):Option V:=
 match c with
 | .bool true=>some a
 | .bool false=>some b
 |_=>none
abbrev CF:=Nat→List V→S→Option (V×S)
def xa (dr st:Bool) (bs:List Nat) (b:Bool):Bool:=
 match dr with
 |false=>true
 |true=>match st with
  |true=>b && bs.isEmpty
  |false=>b
def au (cf:CF) (dr st:Bool) (f:V) (args:List V) (s:S):Option (V×S):=
 match args.any dB with
 |true=>none
 |false=>match f with
  | .fn g first cap=>match dA (first++(args++cap)) { s with wm:=s.n } with
   |(args,bs,s₁)=>match cf g args s₁ with
    |some (v,s₄)=>match xa dr st bs (Nat.ble s.n s₄.wm) with
     |true=>some (v, { s₄ with wm:=least bs (min s.wm s₄.wm) })
     |false=>none
    |none=>none
  |_=>none
inductive Kd where
 |alias (x:Operand)
 |pick (c a b:Operand)
 |pure
 |state
 |call (f:Operand) (args:List Operand)
 |bad
def kindOf (T:Types) (o:Op):Kd:=
 match o with
 | .move x=> .alias x
 | .assign x=> .alias x
 | .pick c a b=> .pick c a b
 | .binOp _ _ _ _ _=> .pure
 | .unOp _ _ _=> .pure
 | .load _ _=> .pure
 | .fieldAddr _ _ _=> .pure
 | .field _ _ _=> .pure
 | .indexAddr _ _ _=> .pure
 | .index _ _ _=> .pure
 | .slice _ _ _ _ _=> .pure
 | .build _ _=> .pure
 | .lookup _ _ _ _=> .pure
 | .extract _ _=> .pure
 | .nilCheck _=> .pure
 | .makeFunc _ _ _=> .pure
 | .convert _ b _=>match T.get b with
  |some { kind:= .int _, .. } => .pure
  |_=> .state
 | .alloc _=> .state
 | .box _ _=> .state
 | .buildSlice _ _ _=> .state
 | .store _ _ _=> .state
 | .makeSlice _ _ _=> .state
 | .makeMap _ _=> .state
 | .mapUpdate _ _ _ _=> .state
 | .call c=>match c.callee with
  | .builtin .len=> .pure
  | .builtin .cap=> .pure
  | .builtin .max=> .pure
  | .builtin .min=> .pure
  | .builtin _=> .state
  | .value f=> .call f c.args.toList
  | .invoke _ _=> .bad
 |_=> .bad
def oT (ρ:Operand→V) (o:Op):Bool:=
 match o with
 | .makeFunc _ a b=>(a.toList.map ρ).any dB || (b.toList.map ρ).any dB
 |_=>false
def vi (T:Types) (ρ:Operand→V) (s:S) (o:Op):Option V:=
 match oT ρ o with
 |true=>none
 |false=>match evalOp T ρ { s with wm:=s.n } o with
  |some (.val v,_)=>some v
  |_=>none
def UK (T:Types) (ρ:Operand→V) (s:S) (o:Op):Option (V×S):=
 match evalOp T ρ { s with wm:=s.n } o with
 |some (.val v,t)=>some (v, { t with wm:=min s.wm t.wm })
 |_=>none
def jV (f:IntKind→Int→Int→Option V) (x y:V):Option V:=
 match x with
 | .int k a=>match y with
  | .int k' b=>match (k == k':Bool) with
   |true=>f k a b
   |false=>none
  |_=>none
 |_=>none
def FK (t:Option TI) (n:Bool) (x y:V):Option V:=
 match x with
 | .int k a=>match y with
  | .int k' b=>match (k == k':Bool) with
   |true=>some (.bool (match J2 a b with
    |true=>n
    |false=> !n))
   |false=>none
  |_=>none
 |_=>match n with
  |true=>bin .eql t x y
  |false=>bin .neq t x y
def an (op:BinOp) (t:Option TI) (x y:V):Option V:=
 match op with
 | .add=>jV (fun k a b=>some (.int k (mo k (a+b)))) x y
 | .sub=>jV (fun k a b=>some (.int k (mo k (a - b)))) x y
 | .mul=>jV (fun k a b=>some (.int k (mo k (a*b)))) x y
 | .quo=>jV (fun k a b=>match J2 b (.ofNat 0) with
  |true=>none
  |false=>some (.int k (mo k (a.tdiv b)))) x y
 | .rem=>jV (fun k a b=>match J2 b (.ofNat 0) with
  |true=>none
  |false=>some (.int k (a.tmod b))) x y
 | .lss=>jV (fun _ a b=>some (.bool (UC a b))) x y
 | .leq=>jV (fun _ a b=>some (.bool (UB a b))) x y
 | .gtr=>jV (fun _ a b=>some (.bool (UC b a))) x y
 | .geq=>jV (fun _ a b=>some (.bool (UB b a))) x y
 | .eql=>FK t true x y
 | .neq=>FK t false x y
 |op=>bin op t x y
def aM (s:S) (p:V):Option V:=
 match rd s p 1 with
 |some (v::_)=>some v
 |_=>none
def aD (n:Nat) (s:S) (p:V):Option V:=
 match rd s p n with
 |some l=>some (.agg l)
 |none=>none
def aJ (off:Nat) (x:V):Option V:=
 match x with
 | .ptr b o=>some (.ptr b (o+off))
 | .dS cs=>mW off cs
 |_=>none
def EW (off:Nat) (cs:List V):Option V:=
 match cs.drop off with
 |v::_=>some v
 | []=>none
def EV (off n:Nat) (cs:List V):Option V:=
 match Nat.ble (off+n) cs.length with
 |true=>some (.agg ((cs.drop off).take n))
 |false=>none
def fdS (off:Nat) (x:V):Option V:=
 match x with
 | .agg cs=>EW off cs
 |_=>none
def fdG (off n:Nat) (x:V):Option V:=
 match x with
 | .agg cs=>EV off n cs
 |_=>none
def Em (i:Int) (n:Nat):Bool:=
 match i with
 | .ofNat k=>Nat.blt k n
 | .negSucc _=>false
def ck (z:Nat) (x i:V):Option V:=
 match i with
 | .int _ i=>match x with
  | .sl b o len _ _=>match Em i len with
   |true=>some (.ptr b (o+i.toNat*z))
   |false=>none
  | .iL cs len=>match Em i len with
   |true=>mW (i.toNat*z) cs
   |false=>none
  |_=>none
 |_=>none
def qn (n z:Nat) (x i:V):Option V:=
 match i with
 | .int _ i=>match Em i n with
  |true=>match x with
   | .ptr b o=>some (.ptr b (o+i.toNat*z))
   | .dS cs=>mW (i.toNat*z) cs
   |_=>none
  |false=>none
 |_=>none
def Q3 (n z:Nat) (x i:V):Option V:=
 match i with
 | .int _ i=>match Em i n with
  |true=>match x with
   | .agg cs=>EW (i.toNat*z) cs
   |_=>none
  |false=>none
 |_=>none
def HN (n z:Nat) (x i:V):Option V:=
 match i with
 | .int _ i=>match Em i n with
  |true=>match x with
   | .agg cs=>EV (i.toNat*z) z cs
   |_=>none
  |false=>none
 |_=>none
def aI:List V→List (Nat×Nat×V)→Option V
 |cs, []=>some (.agg cs)
 |cs,(off,size,v)::rest=>match v with
  | .bad=>none
  |v=>match Nat.beq (bc v).length size && Nat.ble (off+size) cs.length with
   |true=>aI (bY cs off (bc v)) rest
   |false=>none
def rU (T:Types) (fs:List (Nat×Nat)) (ρ:Operand→V):List (Nat×Operand)→Option (List (Nat×Nat×V))
 | []=>some []
 |(i,x)::r=>match fs.drop i with
  |(ft,off)::_=>match T.get ft with
   |some ti=>match rU T fs ρ r with
    |some l=>some ((off,ti.size,ρ x)::l)
    |none=>none
   |none=>none
  | []=>none
def pI (z:Nat) (ρ:Operand→V):List (Nat×Operand)→List (Nat×Nat×V)
 | []=> []
 |(i,x)::r=>(i*z,z,ρ x)::pI z ρ r
def cV (i:Nat) (x:V):Option V:=
 match x with
 | .dQ vs=>match vs.drop i with
  |v::_=>some v
  | []=>none
 |_=>none
def Rg (x:V):Option V:=
 match x with
 | .ptr b o=>some (.ptr b o)
 | .dS cs=>some (.dS cs)
 | .fn f a b=>some (.fn f a b)
 | .yield l=>some (.yield l)
 |_=>none
def vB (f:Nat) (a b:List V):Option V:=
 match a.any dB || b.any dB with
 |true=>none
 |false=>some (.fn f a b)
def mK (k:IntKind) (x:V):Option V:=
 match x with
 | .int _ n=>some (.int k (mo k n))
 |_=>none
def aN (x:V):Option V:=
 match x with
 | .ah=>some (.int .i64 0)
 | .sl _ _ n _ _=>some (.int .i64 n)
 | .iL _ n=>some (.int .i64 n)
 |_=>none
def Ra (x:V):Option V:=
 match x with
 | .str st=>some (.int .i64 st.size)
 |_=>none
def CY (s:S) (x:V):Option V:=
 match x with
 | .ah=>some (.int .i64 0)
 | .sl b _ _ c _=>match s.h.get b with
  |some (.cells _ _ false _)=>some (.int .i64 c)
  |_=>none
 |_=>none
def Q9 (n:Nat) (x:V):Option V:=
 match x with
 | .bad=>none
 |_=>some (.int .i64 n)
def EB (gt:Bool) (l:List V):Option V:=
 match l.any dB with
 |true=>none
 |false=>match l with
  |x::r=>ju gt x r
  | []=>none
def gE (z:Nat) (x:V) (lo hi mx:Option V):Option V:=
 match x with
 | .ah=>match bound mx 0 0 with
  |none=>none
  |some m=>match bound hi m 0 with
   |none=>none
   |some h=>match bound lo h 0,Nat.ble h m with
    |some _,true=>some .ah
    |_,_=>none
 | .sl b o len cap _=>match bound mx cap cap with
  |none=>none
  |some m=>match bound hi m len with
   |none=>none
   |some h=>match bound lo h 0,Nat.ble h m with
    |some l,true=>some (.sl b (o+l*z) (h - l) (m - l) z)
    |_,_=>none
 | .iL cs len=>jq z len cs lo hi mx
 |_=>none
def FA (T:Types) (ρ:Operand→V) (s:S) (o:Op):Option V:=
 match o with
 | .binOp op t x y _=>an op (T.get t) (ρ x) (ρ y)
 | .unOp op _ x=>un op (ρ x)
 | .load t a=>match T.get t with
  |some ti=>match ti.isAgg with
   |true=>aD ti.size s (ρ a)
   |false=>aM s (ρ a)
  |none=>none
 | .fieldAddr t x f=>match T.get t with
  |some ti=>match ti.kind with
   | .struct fs=>match fs.drop f with
    |(ft,off)::_=>match T.get ft with
     |some ti=>match Nat.blt 0 ti.size with
      |true=>aJ off (ρ x)
      |false=>none
     |none=>none
    | []=>none
   |_=>none
  |none=>none
 | .field t x f=>match T.get t with
  |some ti=>match ti.kind with
   | .struct fs=>match fs.drop f with
    |(ft,off)::_=>match T.get ft with
     |some ti=>match ti.isAgg with
      |true=>fdG off ti.size (ρ x)
      |false=>fdS off (ρ x)
     |none=>none
    | []=>none
   |_=>none
  |none=>none
 | .indexAddr t x i=>match T.get t with
  |some ti=>match ti.kind with
   | .slice e=>match T.get e with
    |some te=>ck te.size (ρ x) (ρ i)
    |none=>none
   | .array n e=>match T.get e with
    |some te=>qn n te.size (ρ x) (ρ i)
    |none=>none
   |_=>none
  |none=>none
 | .index t x i=>match T.get t with
  |some ti=>match ti.kind with
   | .array n e=>match T.get e with
    |some te=>match te.isAgg with
     |true=>HN n te.size (ρ x) (ρ i)
     |false=>Q3 n te.size (ρ x) (ρ i)
    |none=>none
   | .string=>ij T t (ρ x) (ρ i)
   |_=>none
  |none=>none
 | .slice t x lo hi mx=>match hi,mx with
  |none,some _=>none
  |hi,mx=>match T.get t with
   |some ti=>match ti.kind with
    | .slice e=>match T.get e with
     |some te=>gE te.size (ρ x) (lo.map ρ) (hi.map ρ) (mx.map ρ)
     |none=>none
    |_=>fh T t (ρ x) (lo.map ρ) (hi.map ρ) (mx.map ρ)
   |none=>none
 | .build t ps=>match T.get t with
  |some ti=>match ti.kind with
   | .struct fs=>match rU T fs ρ ps.toList with
    |some l=>aI (zero ti) l
    |none=>none
   | .array _ e=>match T.get e with
    |some te=>aI (zero ti) (pI te.size ρ ps.toList)
    |none=>none
   |_=>none
  |none=>none
 | .lookup t x i ok=>fV T t s (ρ x) (ρ i) ok
 | .extract t i=>cV i (ρ t)
 | .nilCheck x=>Rg (ρ x)
 | .makeFunc fn a b=>match fn with
  | .func f=>vB f (a.toList.map ρ) (b.toList.map ρ)
  |_=>none
 | .convert a b x=>match T.get a with
  |some ta=>match ta.kind with
   | .int _=>match T.get b with
    |some tb=>match tb.kind with
     | .int k=>mK k (ρ x)
     |_=>none
    |none=>none
   |_=>none
  |none=>none
 | .call c=>match c.callee with
  | .builtin .len=>match c.argTypes.toList,c.args.toList with
   | [t], [x]=>match T.get t with
    |some ti=>match ti.kind with
     | .slice _=>aN (ρ x)
     | .string=>Ra (ρ x)
     | .array n _=>Q9 n (ρ x)
     |_=>none
    |none=>none
   |_,_=>none
  | .builtin .cap=>match c.argTypes.toList,c.args.toList with
   | [t], [x]=>match T.get t with
    |some ti=>match ti.kind with
     | .slice _=>CY s (ρ x)
     |_=>none
    |none=>none
   |_,_=>none
  | .builtin .max=>EB true (c.args.toList.map ρ)
  | .builtin .min=>EB false (c.args.toList.map ρ)
  |_=>none
 |_=>none
def aw (s:S):S:= { s with wm:=s.n }
def aq (s:S) (o:Option (V×S)):Option (V×S):=
 match o with
 |some (v,t)=>some (v, { t with wm:=min s.wm t.wm })
 |none=>none
def aT (cs:List V) (t:Nat) (s:S):Option (V×S):=some (.ptr s.n 0,newObj s (.cells cs t false true))
def bM (t:Nat) (x:V) (s:S):Option (V×S):=
 match x with
 | .bad=>none
 |v=>aT (bc v) t s
def dL (z len e:Nat) (cs:List V) (ps:List (Nat×Nat×V)) (s:S):Option (V×S):=
 match aI cs ps with
 |some (.agg l)=>some (.sl s.n 0 len len z,newObj s (.cells l e false true))
 |_=>none
def aB (z:Nat) (p v:V) (s:S):Option (V×S):=
 match v with
 | .bad=>none
 |v=>match p with
  | .ptr b o=>match Nat.beq (bc v).length z with
   |true=>match fN s b o (bc v) with
    |some s=>some (.bad,s)
    |none=>none
   |false=>none
  |_=>none
def JV (te:TI) (x y:V) (s:S):Option (V×S):=
 match dB x || dB y with
 |true=>none
 |false=>copyV te s x y
def CJ (te:TI) (e:Nat) (x y:V) (s:S):Option (V×S):=
 match dB x || dB y with
 |true=>none
 |false=>cy te e s x y
def bT (te:TI) (e:Nat) (x y:V) (s:S):Option (V×S):=
 match y with
 | .str _=>none
 |y=>CJ te e x y s
def Ik (te:TI) (e:Nat) (x y:V) (s:S):Option (V×S):=
 match y with
 | .str st=>CJ te e x (.str st) s
 |_=>none
def GN (te:TI) (e:Nat) (x y:V) (s:S):Option (V×S):=
 match dB x || dB y with
 |true=>none
 |false=>fO te e s x y
def Rc (s:S):Option (V×S):=some (.map s.n,newObj s (.map [] true))
def SQ (o:Option S):Option (V×S):=
 match o with
 |some s=>some (.bad,s)
 |none=>none
def yT (T:Types) (ρ:Operand→V) (s:S) (o:Op):Option (V×S):=
 match o with
 | .alloc t=>match T.get t with
  |some ti=>aT (zero ti) t s
  |none=>none
 | .box t x=>bM t (ρ x) s
 | .buildSlice t len ps=>match T.get t with
  |some ti=>match ti.kind with
   | .slice e=>match T.get e with
    |some te=>match Nat.ble (len*te.size) 16777216 with
     |true=>dL te.size len e (bz len (zero te)) (pI te.size ρ ps.toList) s
     |false=>none
    |none=>none
   |_=>none
  |none=>none
 | .store t a x=>match T.get t with
  |some ti=>aB ti.size (ρ a) (ρ x) s
  |none=>none
 | .makeSlice t l c=>bQ T t (ρ l) (ρ c) s
 | .makeMap t r=>match T.get t with
  |some ti=>match ti.kind with
   | .map _ _=>match r with
    |none=>Rc s
    |some _=>none
   |_=>none
  |none=>none
 | .mapUpdate t m k v=>SQ (fj T t s (ρ m) (ρ k) (ρ v))
 | .convert a b x=>df T a b (ρ x) s
 | .call c=>match c.callee with
  | .builtin .append=>match c.argTypes.toList,c.args.toList with
   | [t,u], [x,y]=>match T.get t with
    |some ti=>match ti.kind with
     | .slice e=>match T.get u with
      |some tu=>match tu.kind with
       | .slice _=>match T.get e with
        |some te=>bT te e (ρ x) (ρ y) s
        |none=>none
       | .string=>match T.get e with
        |some te=>Ik te e (ρ x) (ρ y) s
        |none=>none
       | .int _=>match T.get e with
        |some te=>GN te e (ρ x) (ρ y) s
        |none=>none
       |_=>none
      |none=>none
     |_=>none
    |none=>none
   |_,_=>none
  | .builtin .copy=>match c.argTypes.toList,c.args.toList with
   | [t,_], [x,y]=>match T.get t with
    |some ti=>match ti.kind with
     | .slice e=>match T.get e with
      |some te=>JV te (ρ x) (ρ y) s
      |none=>none
     |_=>none
    |none=>none
   |_,_=>none
  |_=>none
 |_=>none
def guardOf (ops:Array Oper) (ρ:Operand→V) (o:Oper):Option (V×Bool):=
 match o.guard with
 |none=>none
 |some (j,want)=>match (ops[j]?).bind (·.dst) with
  |none=>some (.bool (!want),want)
  |some d=>some (ρ (.tmp d),want)
def fA (cf:CF) (T:Types) (nt:Nat) (dr st:Bool) (ops:Array Oper):List Oper→Tr V→S→(Tr V→S→bB)→bB
 | [],e,s,k=>k e s
 |o::l,e,s,k=>
  match mX o.dst nt with
  |false=>none
  |true=>match kindOf T o.op with
   | .alias x=>match guardOf ops (ev e) o with
    |none=>fA cf T nt dr st ops l (iN e o.dst (ev e x)) s k
    |some (g,want)=>ae (ay g want (some (ev e x))) fun v=>fA cf T nt dr st ops l (iN e o.dst v) s k
   | .pick c a b=>match guardOf ops (ev e) o with
    |none=>ae (bn (ev e c) (ev e a) (ev e b)) fun v=>fA cf T nt dr st ops l (iN e o.dst v) s k
    |some (g,want)=>ae (ay g want (bn (ev e c) (ev e a) (ev e b))) fun v=>fA cf T nt dr st ops l (iN e o.dst v) s k
   | .pure=>match guardOf ops (ev e) o with
    |none=>ae (FA T (ev e) s o.op) fun v=>fA cf T nt dr st ops l (iN e o.dst v) s k
    |some (g,want)=>ae (ay g want (FA T (ev e) s o.op)) fun v=>fA cf T nt dr st ops l (iN e o.dst v) s k
   | .state=>match guardOf ops (ev e) o with
    |none=>af (aq s (yT T (ev e) (aw s) o.op)) fun v s=>fA cf T nt dr st ops l (iN e o.dst v) s k
    |some (g,want)=>af (fT g want (aq s (yT T (ev e) (aw s) o.op)) s) fun v s=>fA cf T nt dr st ops l (iN e o.dst v) s k
   | .call f args=>match guardOf ops (ev e) o with
    |none=>af (au cf dr st (ev e f) (args.map (ev e)) s) fun v s=>fA cf T nt dr st ops l (iN e o.dst v) s k
    |some (g,want)=>af (fT g want (au cf dr st (ev e f) (args.map (ev e)) s) s) fun v s=>fA cf T nt dr st ops l (iN e o.dst v) s k
   | .bad=>none
def relevant (o:Op):Bool:=
 match o with
 | .move _=>false
 | .assign _=>false
 | .pick _ _ _=>false
 | .binOp _ _ _ _ _=>false
 | .unOp _ _ _=>false
 | .fieldAddr _ _ _=>false
 | .field _ _ _=>false
 | .indexAddr _ _ _=>false
 | .index _ _ _=>false
 | .slice _ _ _ _ _=>false
 | .build _ _=>false
 | .extract _ _=>false
 | .nilCheck _=>false
 | .makeFunc _ _ _=>false
 |_=>true
def writer (o:Op):Bool:=
 match o with
 | .store _ _ _=>true
 | .mapUpdate _ _ _ _=>true
 | .call c=>match c.callee with
  | .builtin _=>true
  |_=>false
 |_=>false
def dY (ops:Array Oper):Bool:=ops.toList.any fun o=>writer o.op
def zz (ops:Array Oper):Bool:=
 ops.toList.zipIdx.all fun x=> !(writer x.1.op) || ops.toList.zipIdx.all fun y=> !(relevant y.1.op) || fixed (iR [] ops.toList) x.2 y.2
def JT (o:Op):Bool:=
 match o with
 | .call c=>match c.callee with
  | .value _=>true
  |_=>false
 |_=>false
def Df (ops:Array Oper):Bool:=zz ops && !(dY ops && ops.toList.any fun o=>JT o.op)
def bE (m:List Nat) (flags:List Fl):Bool:=(flags.zipIdx.all fun x=>match x.1.f.w with
  |some []=>true
  |_=>flags.zipIdx.all fun y=> !(x.1.f.fF y.1.f) || fixed m x.2 y.2) && MF flags
abbrev mI:=Option (V×S×Fl)
def bk (s:S) (v:V):mI:=some (v,s,⟨⟨some [],some [],s.n,s.n⟩, []⟩)
def ar (t:Reach) (s:S) (o:Option V):mI:=
 match o with
 |some v=>some (v,s,⟨⟨t,some [],s.n,s.n⟩, []⟩)
 |none=>none
def dD (t w:Reach) (s:S) (o:Option (V×S)):mI:=
 match o with
 |some (v,t')=>some (v, { t' with wm:=min s.wm t'.wm },⟨⟨t,(match Nat.blt t'.wm s.n with
  |true=>w
  |false=>some []),s.n,t'.n⟩, []⟩)
 |_=>none
def aH (cf:CF) (f:V) (args:List V) (s:S):mI:=
 match args.any dB with
 |true=>none
 |false=>match f with
  | .fn g first cap=>match dA (first++(args++cap)) { s with wm:=s.n } with
   |(args,bs,s₁)=>match cf g args s₁ with
    |some (v,s₄)=>some (v, { s₄ with wm:=least bs (min s.wm s₄.wm) },⟨⟨none,(match Nat.blt s₄.wm s.n with
     |true=>none
     |false=>some []),s.n,s₄.n⟩,bs⟩)
    |none=>none
  |_=>none
def aj (g:Option (V×Bool)) (s:S) (o:mI):mI:=
 match g with
 |none=>o
 |some (g,want)=>match g with
  | .bool b=>match (b == want) with
   |true=>o
   |false=>bk s (.dQ [])
  | .dQ []=>bk s (.dQ [])
  |_=>none
def ai (o:mI) (k:V→S→Fl→bB):bB:=
 match o with
 |some (v,s,x)=>SK v fun v=>UJ s fun s=>k v s x
 |none=>none
theorem vQ (o:mI) (k:V→S→Fl→bB):ai o k=(match o with
 |some (v,s,x)=>k v s x
 |none=>none):=by
 cases o with
 |none=>rfl
 |some p=>
  obtain ⟨v,s,x⟩:=p
  simp only [ai,vf,Fp]
def Zi (cf:CF) (T:Types) (e:Tr V) (s:S) (o:Op):mI:=
 match kindOf T o with
 | .alias x=>bk s (ev e x)
 | .pick c a b=>ar (some []) s (bn (ev e c) (ev e a) (ev e b))
 | .pure=>ar (ag (ev e) o) s (FA T (ev e) s o)
 | .state=>dD (ag (ev e) o) (bA (ev e) o) s (yT T (ev e) (aw s) o)
 | .call f args=>aH cf (ev e f) (args.map (ev e)) s
 | .bad=>none
def bU (b:Bool) (k:bB):bB:=
 match b with
 |true=>k
 |false=>none
def jn (k:List V→S→bB) (c:(List V→S→bB)→bB):bB:=c k
def nZ (cf:CF) (T:Types) (nt:Nat) (ops:Array Oper) (m:List Nat):List Oper→List Fl→Tr V→S→(Tr V→S→bB)→bB
 | [],fl,e,s,k=>bU (bE m fl.reverse) (k e s)
 |o::l,fl,e,s,k=>
  match mX o.dst nt with
  |false=>none
  |true=>ai (aj (guardOf ops (ev e) o) s (Zi cf T e s o.op)) fun v s x=>nZ cf T nt ops m l (x::fl) (iN e o.dst v) s k
def CD (t:Nat) (l:List Nat):List Nat:=
 match l.contains t with
 |true=>l
 |false=>t::l
def OE (x:Operand) (l:List Nat):List Nat:=
 match x with
 | .tmp t=>CD t l
 |_=>l
def Q5 (a b:List Nat):List Nat:=a.foldr CD b
def HS (ops:Array Oper) (l:List Oper) (out:List Nat):List Nat:=
 l.foldr (fun o acc=>
  let acc:=match o.dst,o.guard with
   |some d,none=>acc.filter (fun t=> !(Nat.beq t d))
   |some d,some _=>acc.filter (fun t=> !(Nat.beq t d))
   |none,_=>acc
  let acc:=o.op.operands.toList.foldr OE acc
  match o.guard with
  |some (j,_)=>match (ops[j]?).bind (·.dst) with
   |some d=>CD d acc
   |none=>acc
  |none=>acc) out
def kY (rl:List Nat):Code→List (Nat×List Nat)→List Nat→List Nat
 | .skip,_,out=>out
 | .label _,_,out=>out
 | .ret,_,_=>rl
 | .exit i,xs,_=>match xs.find? (fun p=>Nat.beq p.1 i) with
  |some p=>p.2
  |none=> []
 | .region _ ops _,_,out=>HS ops ops.toList out
 | .seq a b,xs,out=>kY rl a xs (kY rl b xs out)
 | .cond c a b,xs,out=>OE c (Q5 (kY rl a xs out) (kY rl b xs out))
 | .block i c,xs,out=>kY rl c ((i,out)::xs) out
 | .loop c,xs,_=>let l0:=kY rl c xs []
  let l1:=kY rl c xs l0
  kY rl c xs l1
 | .scope c,xs,out=>kY rl c xs out
 | .rangeFunc _ _ _ _,_,out=>out
 |_,_,out=>out
def kQ (L:List Nat) (e:Tr V):List V:=L.map fun t=>ev e (.tmp t)
def nth:List V→Nat→V
 | [],_=> .bad
 |v::_,0=>v
 |_::l,n+1=>nth l n
def Dj:List Nat→List V→Nat→Tr V
 | [],_,_=> .leaf
 |t::L,vs,i=>(Dj L vs (i+1)).set t (nth vs i)
def pU (L:List Nat) (vs:List V):Tr V:=Dj L vs 0
def join (L:List Nat) (k:Tr V→S→bB) (c:(Tr V→S→bB)→bB):bB:=
 jn (fun vs s=>k (pU L vs) s) fun j=>c fun e s=>j (kQ L e) s
def bJ (n:Nat) (body:(List V→S→bB)→List V→S→bB):List V→S→bB:=
 Nat.rec (motive:=fun _=>List V→S→bB) (fun _ _=>none) (fun _ ih=>body ih) n
def den (cf:CF) (T:Types) (nt n:Nat) (rl:List Nat):Code→List (Nat×List Nat)→List Nat→Tr V→S→(Tr V→S→bB)→(Nat→Tr V→S→bB)→(Tr V→S→bB)→bB
 | .skip,_,_,e,s,kN,_,_=>kN e s
 | .label _,_,_,e,s,kN,_,_=>kN e s
 | .ret,_,_,e,s,_,_,kR=>kR e s
 | .exit i,_,_,e,s,_,kE,_=>kE i e s
 | .region _ ops dr,_,_,e,s,kN,_,_=>match (match dr with
   |true=>Df ops
   |false=>true) with
  |true=>fA cf T nt dr (dY ops) ops ops.toList e s kN
  |false=>nZ cf T nt ops (iR [] ops.toList) ops.toList [] e s kN
 | .seq a b,xs,out,e,s,kN,kE,kR=>den cf T nt n rl a xs (kY rl b xs out) e s (fun e s=>den cf T nt n rl b xs out e s kN kE kR) kE kR
 | .cond c a b,xs,out,e,s,kN,kE,kR=>join out kN fun k=>ax (ev e c) (den cf T nt n rl a xs out e s k kE kR) (den cf T nt n rl b xs out e s k kE kR)
 | .block i c,xs,out,e,s,kN,kE,kR=>join out kN fun k=>den cf T nt n rl c ((i,out)::xs) out e s k (fun j e s=>match Nat.beq j i with
  |true=>k e s
  |false=>kE j e s) kR
 | .loop c,xs,out,e,s,_,kE,kR=>(fun (L:List Nat)=>bJ n (fun ih vs s=>den cf T nt n rl c xs L (pU L vs) s (fun e s=>ih (kQ L e) s) kE kR) (kQ L e) s) (kY rl (.loop c) xs out)
 | .scope c,xs,out,e,s,kN,kE,kR=>den cf T nt n rl c xs out e s kN kE kR
 |_,_,_,_,_,_,_,_=>none
def yU (T:Types) (e:Tr V) (s:S):List ResultVar→List (Option V)
 | []=> []
 | .tmp t::r=>some (ev e (.tmp t))::yU T e s r
 | .cell a t::r=>(match T.get t with
  |some ti=>match ti.isAgg with
   |true=>aD ti.size s (ev e (.tmp a))
   |false=>aM s (ev e (.tmp a))
  |none=>none)::yU T e s r
def nX:List (Option V)→Option (List V)
 | []=>some []
 |some v::r=>match v with
  | .bad=>none
  |v=>match nX r with
   |some l=>some (v::l)
   |none=>none
 |none::_=>none
def aC (s₀ s:S) (l:List (Option V)):bB:=
 match nX l with
 |some vs=>some (packed s₀ s (fi vs))
 |none=>none
def Hg (T:Types) (rs:List ResultVar) (s₀:S) (e:Tr V) (s:S):bB:=aC s₀ s (yU T e s rs)
def HZ:List ResultVar→List Nat
 | []=> []
 | .tmp t::r=>CD t (HZ r)
 | .cell a _::r=>CD a (HZ r)
def sJ (cf:CF) (T:Types) (n:Nat) (fn:Func) (args:List V) (s:S):bB:=
 match fn.body with
 |none=>none
 |some c=>match Nat.ble args.length fn.ntmps with
  |false=>none
  |true=>den cf T fn.ntmps n (HZ fn.results.toList) c [] (HZ fn.results.toList) (Tr.ofList .leaf 0 args) s (Hg T fn.results.toList s) (fun _ _ _=>none) (Hg T fn.results.toList s)
end Go.Vm.X
end
noncomputable section
namespace Go.Vm.X
open Go
variable {T:Types} {s s₂:S} {ρ ρ':Operand→V}
theorem kz {o:Op} (h: ∀x∈o.operands,ρ x=ρ' x):evalOp T ρ s o=evalOp T ρ' s o:=by
 have hm: ∀ {l:List Operand},(∀x∈l,ρ x=ρ' x)→l.map ρ=l.map ρ':=fun h=>List.map_congr_left h
 have hp: ∀ {l:List (Nat×Operand)},(∀p∈l,ρ p.2=ρ' p.2)→(l.map fun p=>(p.1,ρ p.2))=l.map fun p=>(p.1,ρ' p.2):=fun h=>List.map_congr_left fun p hp=>by rw [h p hp]
 cases o<;>simp only [evalOp]
 case move x=>rw [h x (by simp [Op.operands])]
 case assign x=>rw [h x (by simp [Op.operands])]
 case pick c a b=>rw [h c (by simp [Op.operands]),h a (by simp [Op.operands]),h b (by simp [Op.operands])]
 case box t x=>rw [h x (by simp [Op.operands])]
 case build t ps=>simp only [pairs];rw [hp (fun p hp=>h p.2 (by simp [Op.operands];exact ⟨p.1,by simpa using hp⟩))]
 case buildSlice t len ps=>simp only [pairs];rw [hp (fun p hp=>h p.2 (by simp [Op.operands];exact ⟨p.1,by simpa using hp⟩))]
 case load t a=>rw [h a (by simp [Op.operands])]
 case store t a x=>rw [h a (by simp [Op.operands]),h x (by simp [Op.operands])]
 case nilCheck x=>rw [h x (by simp [Op.operands])]
 case binOp op t x y sh=>rw [h x (by simp [Op.operands]),h y (by simp [Op.operands])]
 case unOp op t x=>rw [h x (by simp [Op.operands])]
 case convert a b x=>rw [h x (by simp [Op.operands])]
 case makeFunc fn a b=>rw [hm (fun x hx=>h x (by simp [Op.operands];exact .inl (by simpa using hx))),hm (fun x hx=>h x (by simp [Op.operands];exact .inr (by simpa using hx)))]
 case mapUpdate t m k v=>rw [h m (by simp [Op.operands]),h k (by simp [Op.operands]),h v (by simp [Op.operands])]
 case makeSlice t l c=>rw [h l (by simp [Op.operands]),h c (by simp [Op.operands])]
 case slice t x lo hi mx=>
  have e0:=h x (by simp [Op.operands])
  have e1:lo.map ρ=lo.map ρ':=by
   cases lo with
   |none=>rfl
   |some y=>simp only [Option.map_some];rw [h y (by simp [Op.operands])]
  rw [e0,e1]
  cases hi with
  |none=>cases mx<;>rfl
  |some y=>
   have ey:=h y (by simp [Op.operands])
   cases mx with
   |none=>simp only [Option.map_some,ey];rfl
   |some z=>simp only [Option.map_some,ey,h z (by simp [Op.operands])]
 case fieldAddr t x f=>rw [h x (by simp [Op.operands])]
 case field t x f=>rw [h x (by simp [Op.operands])]
 case indexAddr t x i=>rw [h x (by simp [Op.operands]),h i (by simp [Op.operands])]
 case index t x i=>rw [h x (by simp [Op.operands]),h i (by simp [Op.operands])]
 case lookup t x i ok=>rw [h x (by simp [Op.operands]),h i (by simp [Op.operands])]
 case extract t i=>rw [h t (by simp [Op.operands])]
 case call c=>
  unfold dG
  have ha:c.args.toList.map ρ=c.args.toList.map ρ':=hm fun x hx=>h x (by
   simp only [Op.operands]
   unfold Call.operands
   split<;>simp_all)
  rw [ha]
  split
  ·rfl
  ·rfl
  ·rename_i f hf
   rw [h f (by simp only [Op.operands];unfold Call.operands;simp [hf])]
theorem ur {te:TI} {e n len:Nat} {l pre:List V} {v:V} (hr:fresh te e n len l pre s=some (v,s₂)):s.n≤s₂.n:=by
 unfold fresh at hr
 split at hr
 ·simp only [Option.some.injEq,Prod.mk.injEq] at hr;obtain ⟨_,rfl⟩:=hr;simp [newObj]
 ·cases hr
theorem sA {b o:Nat} {l:List V} (hr:fN s b o l=some s₂):s₂.n=s.n:=by
 unfold fN at hr
 split at hr
 ·split at hr
  ·cases hr;rfl
  ·cases hr
 ·cases hr
theorem FG {te:TI} {e:Nat} {x y v:V} (hr:fO te e s x y=some (v,s₂)):s.n≤s₂.n:=by
 unfold fO at hr
 split at hr
 ·split at hr
  ·simp only [Option.some.injEq,Prod.mk.injEq] at hr;obtain ⟨_,rfl⟩:=hr;simp [newObj]
  ·cases hr
 ·cases hr
theorem td {te:TI} {e:Nat} {x y v:V} (hr:cy te e s x y=some (v,s₂)):s.n≤s₂.n:=by
 have same: ∀ {v w:V},some (v,s)=some (w,s₂)→s.n≤s₂.n:=fun h=>by
  simp only [Option.some.injEq,Prod.mk.injEq] at h;obtain ⟨_,rfl⟩:=h;exact Nat.le_refl _
 unfold cy at hr
 split at hr
 ·cases hr
 ·split at hr
  ·split at hr
   ·exact same hr
   ·exact ur hr
  ·split at hr
   ·exact same hr
   ·cases hr
  ·split at hr
   ·cases hr
   ·split at hr
    ·exact same hr
    ·split at hr
     ·split at hr
      ·rename_i hw
       have:=sA hw
       simp only [Option.some.injEq,Prod.mk.injEq] at hr;obtain ⟨_,rfl⟩:=hr;omega
      ·cases hr
     ·split at hr
      ·split at hr
       ·exact ur hr
       ·cases hr
      ·split at hr
       ·split at hr
        ·rename_i hf
         cases hr
         have:=ur hf
         exact this
        ·cases hr
       ·cases hr
      ·cases hr
  ·cases hr
theorem G9 {te:TI} {x y v:V} (hr:copyV te s x y=some (v,s₂)):s.n≤s₂.n:=by
 have same: ∀ {v w:V},some (v,s)=some (w,s₂)→s.n≤s₂.n:=fun h=>by
  simp only [Option.some.injEq,Prod.mk.injEq] at h;obtain ⟨_,rfl⟩:=h;exact Nat.le_refl _
 unfold copyV at hr
 split at hr
 ·split at hr<;>first|(cases hr;done)|exact same hr
 ·split at hr
  ·cases hr
  ·split at hr
   ·exact same hr
   ·split at hr
    ·split at hr
     ·rename_i hw
      have:=sA hw
      simp only [Option.some.injEq,Prod.mk.injEq] at hr;obtain ⟨_,rfl⟩:=hr;omega
     ·cases hr
    ·cases hr
 ·cases hr
theorem wi {o:Op} {r:gf} (hr:evalOp T ρ s o=some (r,s₂)):s.n≤s₂.n:=by
 have same: ∀ {r r':gf},some (r,s)=some (r',s₂)→s.n≤s₂.n:=fun h=>by
  simp only [Option.some.injEq,Prod.mk.injEq] at h;obtain ⟨_,rfl⟩:=h;exact Nat.le_refl _
 have new: ∀ {r r':gf} {o:Obj},some (r,newObj s o)=some (r',s₂)→s.n≤s₂.n:=fun h=>by
  simp only [Option.some.injEq,Prod.mk.injEq] at h;obtain ⟨_,rfl⟩:=h;simp [newObj]
 have EJ: ∀ {x:Option V} {r:gf},one x s=some (r,s₂)→s.n≤s₂.n:=fun h=>by rw [nc h];exact Nat.le_refl _
 cases o<;>simp only [evalOp] at hr<;>try first|(cases hr;done)|exact same hr|exact EJ hr
 case pick c a b=>split at hr<;>first|(cases hr;done)|exact same hr
 case alloc t=>split at hr<;>first|(cases hr;done)|exact new hr
 case box t x=>split at hr<;>first|(cases hr;done)|exact new hr
 case buildSlice t len ps=>
  obtain ⟨v,hv⟩:=hH hr
  unfold cI at hv
  split at hv
  ·split at hv
   ·split at hv
    ·split at hv
     ·simp only [Option.some.injEq,Prod.mk.injEq] at hv;obtain ⟨_,rfl⟩:=hv;simp [newObj]
     ·cases hv
    ·cases hv
   ·cases hv
  ·cases hv
 case load t a=>split at hr<;>first|(cases hr;done)|exact EJ hr
 case store t a x=>
  split at hr
  ·unfold three at hr
   split at hr
   ·rename_i s₁ hs
    simp only [Option.some.injEq,Prod.mk.injEq] at hr;obtain ⟨_,rfl⟩:=hr
    unfold storeT at hs
    split at hs
    ·cases hs
    ·split at hs
     ·rw [sA hs];exact Nat.le_refl _
     ·cases hs
    ·cases hs
   ·cases hr
  ·cases hr
 case nilCheck x=>split at hr<;>first|(cases hr;done)|exact same hr
 case convert a b x=>
  obtain ⟨v,hv⟩:=hH hr
  have r9: ∀ {v w:V},some (v,s)=some (w,s₂)→s.n≤s₂.n:=fun h=>by
   simp only [Option.some.injEq,Prod.mk.injEq] at h;obtain ⟨_,rfl⟩:=h;exact Nat.le_refl _
  unfold df at hv
  split at hv
  ·exact r9 hv
  ·exact r9 hv
  ·split at hv
   ·split at hv
    ·exact r9 hv
    ·split at hv
     ·split at hv<;>first|(cases hv;done)|exact r9 hv
     ·cases hv
    ·split at hv
     ·split at hv<;>first|(cases hv;done)|exact r9 hv
     ·cases hv
    ·cases hv
   ·cases hv
  ·split at hv
   ·split at hv
    ·simp only [Option.some.injEq,Prod.mk.injEq] at hv;obtain ⟨_,rfl⟩:=hv;simp [newObj]
    ·cases hv
   ·cases hv
  ·cases hv
 case makeFunc fn a b=>split at hr<;>first|(cases hr;done)|exact same hr
 case makeMap t r=>split at hr<;>first|(cases hr;done)|exact new hr
 case mapUpdate t m k v=>
  unfold three at hr
  split at hr
  ·rename_i s₁ hs
   simp only [Option.some.injEq,Prod.mk.injEq] at hr;obtain ⟨_,rfl⟩:=hr
   unfold fj at hs
   split at hs
   ·cases hs
   ·split at hs
    ·split at hs
     ·split at hs
      ·split at hs
       ·cases hs;exact Nat.le_refl _
       ·cases hs
      ·cases hs
     ·cases hs
    ·cases hs
  ·cases hr
 case makeSlice t l c=>
  obtain ⟨v,hv⟩:=hH hr
  unfold bQ at hv
  split at hv
  ·split at hv
   ·split at hv
    ·simp only [Option.some.injEq,Prod.mk.injEq] at hv;obtain ⟨_,rfl⟩:=hv;simp [newObj]
    ·cases hv
   ·cases hv
  ·cases hv
 case slice t x lo hi mx=>split at hr<;>first|(cases hr;done)|exact EJ hr
 case extract t i=>
  split at hr
  ·split at hr<;>first|(cases hr;done)|exact same hr
  ·cases hr
 case call c=>
  unfold dG at hr
  split at hr
  ·split at hr
   ·cases hr
   ·unfold bI at hr
    split at hr
    ·split at hr<;>first|(cases hr;done)|exact same hr|skip
     split at hr<;>first|(cases hr;done)|exact same hr
    ·split at hr<;>first|(cases hr;done)|exact same hr|skip
     split at hr<;>first|(cases hr;done)|exact same hr
    ·split at hr
     ·split at hr
      ·cases hr
      ·obtain ⟨v,hv⟩:=hH hr;exact td hv
      ·cases hr
     ·split at hr
      ·obtain ⟨v,hv⟩:=hH hr;exact td hv
      ·cases hr
     ·split at hr
      ·obtain ⟨v,hv⟩:=hH hr;exact FG hv
      ·cases hr
     ·cases hr
    ·split at hr
     ·split at hr
      ·obtain ⟨v,hv⟩:=hH hr;exact G9 hv
      ·cases hr
     ·cases hr
    ·exact EJ hr
    ·exact EJ hr
    ·cases hr
  ·cases hr
  ·split at hr<;>first|(cases hr;done)|exact same hr
theorem LM {o:Op} (hk:kindOf T o= .pure) {v:V} (hr:evalOp T ρ s o=some (.val v,s₂)):s₂=s:=by
 have same: ∀ {r r':gf},some (r,s)=some (r',s₂)→s₂=s:=fun h=>by
  simp only [Option.some.injEq,Prod.mk.injEq] at h;exact h.2.symm
 cases o<;>simp only [kindOf] at hk<;>simp only [evalOp] at hr<;>try first|(cases hk;done)|(cases hr;done)|exact same hr|exact nc hr
 case load t a=>split at hr<;>first|(cases hr;done)|exact nc hr
 case nilCheck x=>split at hr<;>first|(cases hr;done)|exact same hr
 case convert a b x=>
  split at hk
  ·rename_i hb
   obtain ⟨v,hv⟩:=hH hr
   have r9: ∀ {v w:V},some (v,s)=some (w,s₂)→s₂=s:=fun h=>by
    simp only [Option.some.injEq,Prod.mk.injEq] at h;exact h.2.symm
   unfold df at hv
   rw [hb] at hv
   split at hv<;>first|exact r9 hv|(cases hv;done)|(simp_all;done)
  ·cases hk
 case makeFunc fn a b=>split at hr<;>first|(cases hr;done)|exact same hr
 case slice t x lo hi mx=>split at hr<;>first|(cases hr;done)|exact nc hr
 case extract t i=>
  split at hr
  ·split at hr<;>first|(cases hr;done)|exact same hr
  ·cases hr
 case call c=>
  unfold dG at hr
  split at hr
  ·rename_i b hb
   rw [hb] at hk
   split at hr
   ·cases hr
   ·unfold bI at hr
    cases b<;>simp only [] at hk<;>first|(cases hk;done)|skip
    all_goals
     split at hr
     all_goals first|(cases hr;done)|exact nc hr|(rename_i e _ _;cases e;done)|skip
     all_goals first|(split at hr<;>first|(cases hr;done)|exact same hr|(split at hr<;>first|(cases hr;done)|exact same hr))|skip
  ·cases hr
  ·rename_i f hf
   rw [hf] at hk;cases hk
end Go.Vm.X
end
noncomputable section
namespace Go.Vm.X
open Go
variable {T:Types} {s s₂:S} {ρ ρ':Operand→V}
theorem oe {place:Nat→Option (Nat×Nat)} : ∀ {ps:List (Nat×V)} {cs l:List V},fG place cs ps=some l→ ∀p∈ps,p.2≠ .bad
 | [],_,_,_,p,hp=>by cases hp
 |(i,v)::ps,cs,l,hr,p,hp=>by
  unfold fG at hr
  split at hr
  ·cases hr
  ·split at hr
   ·cases hr
   ·rename_i hb
    split at hr
    ·rcases List.mem_cons.1 hp with rfl|hp
     ·exact hb
     ·exact oe hr p hp
    ·cases hr
theorem eN {x:Option V} {a b n:Nat} (hr:bound x a b=some n):x≠some .bad:=by
 rintro rfl
 cases hr
theorem tU {z len:Nat} {cs:List V} {lo hi mx:Option V} {v:V} (hr:jq z len cs lo hi mx=some v):lo≠some .bad∧hi≠some .bad∧mx≠some .bad:=by
 unfold jq at hr
 split at hr
 ·cases hr
 ·rename_i h1
  split at hr
  ·cases hr
  ·rename_i h2
   split at hr
   ·rename_i h3 _;exact ⟨eN h3,eN h2,eN h1⟩
   ·cases hr
theorem BR {t:Nat} {x:V} {lo hi mx:Option V} {v:V} (hr:fh T t x lo hi mx=some v):x≠ .bad∧lo≠some .bad∧hi≠some .bad∧mx≠some .bad:=by
 unfold fh at hr
 split at hr
 ·cases hr
 ·split at hr
  ·split at hr
   ·cases hr
   ·split at hr
    ·cases hr
    ·rename_i h2
     split at hr
     ·cases hr
     ·rename_i h3;exact ⟨by simp,eN h3,eN h2,by simp⟩
  ·split at hr
   ·cases hr
   ·split at hr
    ·cases hr
    ·rename_i h1
     split at hr
     ·cases hr
     ·rename_i h2
      split at hr
      ·rename_i h3 _;exact ⟨by simp,eN h3,eN h2,eN h1⟩
      ·cases hr
  ·split at hr
   ·cases hr
   ·split at hr
    ·cases hr
    ·rename_i h1
     split at hr
     ·cases hr
     ·rename_i h2
      split at hr
      ·rename_i h3 _;exact ⟨by simp,eN h3,eN h2,eN h1⟩
      ·cases hr
  ·split at hr
   ·cases hr
   ·exact ⟨by simp,tU hr⟩
  ·split at hr
   ·cases hr
   ·split at hr
    ·cases hr
    ·rename_i h1
     split at hr
     ·cases hr
     ·rename_i h2
      split at hr
      ·rename_i h3 _;exact ⟨by simp,eN h3,eN h2,eN h1⟩
      ·cases hr
  ·split at hr
   ·cases hr
   ·exact ⟨by simp,tU hr⟩
  ·cases hr
theorem na {o:Option V} {r:gf} (hr:one o s=some (r,s₂)): ∃v,o=some v:=by
 unfold one at hr
 split at hr
 ·exact ⟨_,rfl⟩
 ·cases hr
theorem FC {t:TI} {x y:V} {b:Bool} (hr:sH t x y=some b):x≠ .bad∧y≠ .bad:=by
 constructor
 ·rintro rfl
  unfold sH at hr
  split at hr<;>first|(cases hr;done)|(rename_i h _;cases h;done)|(rename_i h;cases h;done)|simp_all
 ·rintro rfl
  unfold sH at hr
  split at hr<;>first|(cases hr;done)|(rename_i h;cases h;done)|simp_all
theorem CM {op:BinOp} {t:Option TI} {x y v:V} (hr:bin op t x y=some v):x≠ .bad∧y≠ .bad:=by
 unfold bin at hr
 split at hr
 ·exact ⟨by simp,by simp⟩
 ·exact ⟨by simp,by simp⟩
 ·split at hr
  ·split at hr
   ·rename_i h;exact FC h
   ·cases hr
  ·split at hr
   ·rename_i h;exact FC h
   ·cases hr
  ·cases hr
theorem mw {o:Op} {v:V} (hr:evalOp T ρ s o=some (.val v,s₂)) (hk:kindOf T o= .pure∨kindOf T o= .state) (hb:oT ρ o=false): ∀x∈o.operands,ρ x≠ .bad:=by
 intro x hx
 cases o<;>simp only [evalOp] at hr<;>simp only [Op.operands] at hx<;>try first|(cases hr;done)|(simp at hx;done)|(rcases hk with hk|hk<;>(cases hk;done))
 case box t y=>
  simp only [List.mem_toArray,List.mem_cons,List.not_mem_nil,or_false] at hx
  subst hx
  intro e
  rw [e] at hr
  cases hr
 case build t ps=>
  obtain ⟨w,hw⟩:=na hr
  simp only [List.mem_toArray,List.mem_map] at hx
  obtain ⟨p,hp,rfl⟩:=hx
  have hm:(p.1,ρ p.2)∈pairs ρ ps:=List.mem_map.2 ⟨p,hp,rfl⟩
  unfold iI at hw
  split at hw
  ·split at hw
   ·split at hw
    ·rename_i hf;exact oe hf _ hm
    ·cases hw
   ·split at hw
    ·split at hw
     ·rename_i hf;exact oe hf _ hm
     ·cases hw
    ·cases hw
   ·cases hw
  ·cases hw
 case buildSlice t len ps=>
  obtain ⟨w,hw⟩:=hH hr
  simp only [List.mem_toArray,List.mem_map] at hx
  obtain ⟨p,hp,rfl⟩:=hx
  have hm:(p.1,ρ p.2)∈pairs ρ ps:=List.mem_map.2 ⟨p,hp,rfl⟩
  unfold cI at hw
  split at hw
  ·split at hw
   ·split at hw
    ·split at hw
     ·rename_i hf;exact oe hf _ hm
     ·cases hw
    ·cases hw
   ·cases hw
  ·cases hw
 case load t a=>
  simp only [List.mem_toArray,List.mem_cons,List.not_mem_nil,or_false] at hx
  subst hx
  intro e
  rw [e] at hr
  split at hr
  ·obtain ⟨w,hw⟩:=na hr
   unfold loadT at hw
   split at hw<;>simp [rd] at hw
  ·cases hr
 case store t a y=>
  simp only [List.mem_toArray,List.mem_cons,List.not_mem_nil,or_false] at hx
  split at hr
  ·unfold three at hr
   split at hr
   ·rename_i hs
    unfold storeT at hs
    split at hs
    ·cases hs
    ·rename_i h1 h2
     rcases hx with rfl|rfl
     ·rw [h1];simp
     ·exact h2
    ·cases hs
   ·cases hr
  ·cases hr
 case nilCheck y=>
  simp only [List.mem_toArray,List.mem_cons,List.not_mem_nil,or_false] at hx
  subst hx
  intro e
  rw [e] at hr
  cases hr
 case binOp op t y z sh=>
  obtain ⟨w,hw⟩:=na hr
  simp only [List.mem_toArray,List.mem_cons,List.not_mem_nil,or_false] at hx
  rcases hx with rfl|rfl
  ·exact (CM hw).1
  ·exact (CM hw).2
 case unOp op t y=>
  obtain ⟨w,hw⟩:=na hr
  simp only [List.mem_toArray,List.mem_cons,List.not_mem_nil,or_false] at hx
  subst hx
  intro e
  rw [e] at hw
  cases hw
 case convert a b y=>
  obtain ⟨w,hw⟩:=hH hr
  simp only [List.mem_toArray,List.mem_cons,List.not_mem_nil,or_false] at hx
  subst hx
  intro e
  rw [e] at hw
  unfold df at hw
  split at hw
  ·rename_i h;cases h
  ·rename_i h;cases h
  ·split at hw<;>cases hw
  ·rename_i h;cases h
  ·cases hw
 case makeFunc fn a b=>
  simp only [Array.mem_append] at hx
  simp only [oT,Bool.or_eq_false_iff,List.any_eq_false,List.mem_map] at hb
  intro e
  rcases hx with hx|hx
  ·have:=hb.1 (ρ x) ⟨x,by simpa using hx,rfl⟩
   rw [e] at this;simp [dB] at this
  ·have:=hb.2 (ρ x) ⟨x,by simpa using hx,rfl⟩
   rw [e] at this;simp [dB] at this
 case makeMap t r=>
  split at hr
  ·simp at hx
  ·cases hr
 case mapUpdate t m k v'=>
  simp only [List.mem_toArray,List.mem_cons,List.not_mem_nil,or_false] at hx
  unfold three at hr
  split at hr
  ·rename_i s₁ hs
   unfold fj at hs
   split at hs
   ·cases hs
   ·rename_i hv
    split at hs
    ·split at hs
     ·rename_i h1 h2
      rcases hx with rfl|rfl|rfl
      ·rw [h1];simp
      ·rw [h2];simp
      ·exact hv
     ·cases hs
    ·cases hs
  ·cases hr
 case makeSlice t l c=>
  obtain ⟨w,hw⟩:=hH hr
  simp only [List.mem_toArray,List.mem_cons,List.not_mem_nil,or_false] at hx
  unfold bQ at hw
  split at hw
  ·rename_i h1 h2
   rcases hx with rfl|rfl
   ·rw [h1];simp
   ·rw [h2];simp
  ·cases hw
 case slice t y lo hi mx=>
  have key: ∃w,fh T t (ρ y) (lo.map ρ) (hi.map ρ) (mx.map ρ)=some w:=by
   split at hr
   ·cases hr
   ·exact na hr
  obtain ⟨w,hw⟩:=key
  obtain ⟨h1,h2,h3,h4⟩:=BR hw
  simp only [Array.mem_append,List.mem_toArray,List.mem_cons,List.not_mem_nil,or_false,Option.mem_toArray] at hx
  rcases hx with ((rfl|hx)|hx)|hx
  ·exact h1
  ·subst hx;intro e;exact h2 (by simp [e])
  ·subst hx;intro e;exact h3 (by simp [e])
  ·subst hx;intro e;exact h4 (by simp [e])
 case fieldAddr t y f=>
  obtain ⟨w,hw⟩:=na hr
  simp only [List.mem_toArray,List.mem_cons,List.not_mem_nil,or_false] at hx
  subst hx
  intro e
  rw [e] at hw
  unfold eh at hw
  split at hw
  ·split at hw
   ·split at hw
    ·split at hw<;>cases hw
    ·cases hw
   ·cases hw
  ·cases hw
 case field t y f=>
  obtain ⟨w,hw⟩:=na hr
  simp only [List.mem_toArray,List.mem_cons,List.not_mem_nil,or_false] at hx
  subst hx
  intro e
  rw [e] at hw
  unfold iK at hw
  split at hw
  ·rename_i h;cases h
  ·cases hw
 case indexAddr t y i=>
  obtain ⟨w,hw⟩:=na hr
  simp only [List.mem_toArray,List.mem_cons,List.not_mem_nil,or_false] at hx
  unfold ek at hw
  split at hw
  all_goals first|(cases hw;done)|skip
  all_goals
   rename_i h1 h2
   rcases hx with rfl|rfl
   ·rw [h1];simp
   ·rw [h2];simp
 case index t y i=>
  obtain ⟨w,hw⟩:=na hr
  simp only [List.mem_toArray,List.mem_cons,List.not_mem_nil,or_false] at hx
  unfold ij at hw
  split at hw
  all_goals first|(cases hw;done)|skip
  all_goals
   rename_i h1 h2
   rcases hx with rfl|rfl
   ·rw [h1];simp
   ·rw [h2];simp
 case lookup t y i ok=>
  obtain ⟨w,hw⟩:=na hr
  simp only [List.mem_toArray,List.mem_cons,List.not_mem_nil,or_false] at hx
  unfold fV at hw
  split at hw
  ·split at hw
   ·split at hw
    ·rename_i h1 h2
     rcases hx with rfl|rfl
     ·intro e;rw [e] at h1;cases h1
     ·rw [h2];simp
    ·cases hw
   ·cases hw
  ·cases hw
 case extract t i=>
  simp only [List.mem_toArray,List.mem_cons,List.not_mem_nil,or_false] at hx
  subst hx
  intro e
  rw [e] at hr
  cases hr
 case call c=>
  have hc: ∃b,c.callee= .builtin b:=by
   cases lu:c.callee with
   |builtin b=>exact ⟨b,rfl⟩
   |invoke _ _=>simp only [kindOf,lu] at hk;rcases hk with h|h<;>cases h
   |value f=>simp only [kindOf,lu] at hk;rcases hk with h|h<;>cases h
  obtain ⟨b,hc⟩:=hc
  unfold dG at hr
  simp only [hc] at hr
  split at hr
  ·cases hr
  ·rename_i hnb
   intro e
   have h1:(c.args.toList.map ρ).any dB=true:=by
    rw [List.any_eq_true]
    refine ⟨ρ x,List.mem_map.2 ⟨x,?_,rfl⟩,by rw [e];rfl⟩
    unfold Call.operands at hx
    simp only [hc] at hx
    simpa using hx
   rw [h1] at hnb;cases hnb
end Go.Vm.X
end
