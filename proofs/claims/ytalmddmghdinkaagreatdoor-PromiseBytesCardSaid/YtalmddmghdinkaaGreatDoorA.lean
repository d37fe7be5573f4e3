/-
  A part of the proof of PromiseBytes: lemmas, in short letters, printed by a program out of the longer texts; conditions: those that each lemma names.
-/
import Derived.RangeFuncLeaves
import Derived.OrdersIn
set_option linter.all false
set_option linter.deprecated false
section
namespace Go.Vm
open Go
inductive Tr (α:Type) where
 |leaf
 |node (l:Tr α) (v:Option α) (r:Tr α)
namespace Tr
variable {α:Type}
noncomputable def get (t:Tr α):Nat→Option α:=
 Tr.rec (motive:=fun _=>Nat→Option α) (fun _=>none) (fun _ v _ gl gr k=>
  match k with
  |0=>v
  |k+1=>match Nat.beq (k % 2) 0 with
   |true=>gl (k / 2)
   |false=>gr (k / 2)) t
theorem iz (l:Tr α) (v:Option α) (r:Tr α) (k:Nat):(node l v r).get k=
  match k with
  |0=>v
  |k+1=>match Nat.beq (k % 2) 0 with
   |true=>l.get (k / 2)
   |false=>r.get (k / 2):=rfl
def left:Tr α→Tr α
 | .leaf=> .leaf
 | .node l _ _=>l
def right:Tr α→Tr α
 | .leaf=> .leaf
 | .node _ _ r=>r
def top:Tr α→Option α
 | .leaf=>none
 | .node _ v _=>v
noncomputable def Fg (f:Nat):Tr α→Nat→α→Tr α:=
 Nat.rec (motive:=fun _=>Tr α→Nat→α→Tr α) (fun t _ _=>t) (fun _ st t k x=>
  match t with
  | .leaf=>match k with
   |0=> .node .leaf (some x) .leaf
   |k+1=>match Nat.beq (k % 2) 0 with
    |true=> .node (st .leaf (k / 2) x) none .leaf
    |false=> .node .leaf none (st .leaf (k / 2) x)
  | .node l v r=>match k with
   |0=> .node l (some x) r
   |k+1=>match Nat.beq (k % 2) 0 with
    |true=> .node (st l (k / 2) x) v r
    |false=> .node l v (st r (k / 2) x)) f
noncomputable def set (t:Tr α) (k:Nat) (x:α):Tr α:=Fg (k+1) t k x
theorem fu (k:Nat):(leaf:Tr α).get k=none:=by cases k<;>rfl
theorem rp (t:Tr α) (k:Nat) (h:Nat.beq (k % 2) 0=true):t.get (k+1)=t.left.get (k / 2):=by
 cases t with
 |leaf=>rw [fu,left,fu]
 |node l v r=>rw [iz];simp only [left,h]
theorem pn (t:Tr α) (k:Nat) (h:Nat.beq (k % 2) 0=false):t.get (k+1)=t.right.get (k / 2):=by
 cases t with
 |leaf=>rw [fu,right,fu]
 |node l v r=>rw [iz];simp only [right,h]
theorem wD (t:Tr α):t.get 0=t.top:=by cases t<;>rfl
theorem H2 (f:Nat) (t:Tr α) (k:Nat) (x:α):Fg (f+1) t k x=
  match k with
  |0=> .node t.left (some x) t.right
  |k+1=>match Nat.beq (k % 2) 0 with
   |true=> .node (Fg f t.left (k / 2) x) t.top t.right
   |false=> .node t.left t.top (Fg f t.right (k / 2) x):=by
 cases t with
 |leaf=>cases k with
  |zero=>rfl
  |succ k=>rfl
 |node l v r=>cases k with
  |zero=>rfl
  |succ k=>rfl
theorem DE (x:α): ∀(f:Nat) (t:Tr α) (k j:Nat),k<f→(Fg f t k x).get j=if j=k then some x else t.get j:=by
 intro f
 induction f with
 |zero=>intro t k j h;omega
 |succ f ih=>
  intro t k j hk
  rw [H2]
  cases k with
  |zero=>
   simp only []
   cases j with
   |zero=>simp [iz]
   |succ j=>
    simp only [iz,Nat.succ_ne_zero,if_false]
    cases h:Nat.beq (j % 2) 0 with
    |true=>simp [rp t j h]
    |false=>simp [pn t j h]
  |succ k=>
   simp only []
   cases h:Nat.beq (k % 2) 0 with
   |true=>
    simp only []
    cases j with
    |zero=>simp [wD,top]
    |succ j=>
     simp only [iz]
     cases h':Nat.beq (j % 2) 0 with
     |true=>
      simp only []
      rw [ih _ _ _ (by omega),rp t j h']
      have e:(j / 2=k / 2)↔(j+1=k+1):=by
       have h1:=Nat.eq_of_beq_eq_true h
       have h2:=Nat.eq_of_beq_eq_true h'
       omega
      simp [e]
     |false=>
      simp only []
      rw [pn t j h']
      have hne: ¬(j+1=k+1):=by
       intro e
       have:j=k:=by omega
       subst this;rw [h] at h';cases h'
      rw [if_neg hne]
   |false=>
    simp only []
    cases j with
    |zero=>simp [wD,top]
    |succ j=>
     simp only [iz]
     cases h':Nat.beq (j % 2) 0 with
     |false=>
      simp only []
      rw [ih _ _ _ (by omega),pn t j h']
      have e:(j / 2=k / 2)↔(j+1=k+1):=by
       have h1:k % 2≠0:=fun e=>by rw [e] at h;cases h
       have h2:j % 2≠0:=fun e=>by rw [e] at h';cases h'
       omega
      simp [e]
     |true=>
      simp only []
      rw [rp t j h']
      have hne: ¬(j+1=k+1):=by
       intro e
       have:j=k:=by omega
       subst this;rw [h] at h';cases h'
      rw [if_neg hne]
theorem gv (t:Tr α) (k j:Nat) (x:α):(t.set k x).get j=if j=k then some x else t.get j:=DE x _ t k j (Nat.lt_succ_self k)
theorem aQ (t:Tr α) (k:Nat) (x:α):(t.set k x).get k=some x:=by simp [gv]
theorem aK (t:Tr α) {k j:Nat} (x:α) (h:j≠k):(t.set k x).get j=t.get j:=by simp [gv,h]
noncomputable def ofList:Tr α→Nat→List α→Tr α
 |t,_, []=>t
 |t,i,x::xs=>ofList (t.set i x) (i+1) xs
theorem rq (xs:List α): ∀(t:Tr α) (i j:Nat),(ofList t i xs).get j=if i≤j∧j<i+xs.length then xs[j - i]? else t.get j:=by
 induction xs with
 |nil=>
  intro t i j
  have: ¬(i≤j∧j<i+([]:List α).length):=by simp
  rw [if_neg this];rfl
 |cons x xs ih=>
  intro t i j
  simp only [ofList]
  rw [ih,gv]
  by_cases h1:j=i
  ·subst h1
   simp
   intro h;omega
  ·by_cases h2:i+1≤j∧j<i+1+xs.length
   ·have h3:i≤j∧j<i+(x::xs).length:=by simp;omega
    rw [if_pos h2,if_pos h3]
    obtain ⟨d,rfl⟩: ∃d,j=i+1+d:=⟨j - (i+1),by omega⟩
    have e1:i+1+d - (i+1)=d:=by omega
    have e2:i+1+d - i=d+1:=by omega
    rw [e1,e2];simp
   ·have h3: ¬(i≤j∧j<i+(x::xs).length):=by simp;omega
    rw [if_neg h2,if_neg h3,if_neg h1]
end Tr
end Go.Vm
end
noncomputable section
namespace Go.Vm
open Go
inductive TK where
 |int (k:IntKind)
 |bool
 |string
 |slice (e:Nat)
 |array (n e:Nat)
 |struct (fs:List (Nat×Nat))
 |pointer (e:Nat)
 |map (k v:Nat)
 |func
 |iface
 |other
structure TI where
 kind:TK
 size:Nat
 bytes:Nat
 zero:Value
structure pQ where
 state:LoopState
 pending:Option Code
 fn:Nat
 e:Tr Value
 nt:Nat
 params:List Nat
 assign:Code
 body:Code
 defers:Nat
inductive eI where
 |cells (cs:List Value) (elem:Nat) (Fi own:Bool)
 |map (es:List (Value×Value)) (own:Bool)
 |loop (r:pQ)
 |defs
 |dead
structure St where
 h:Tr eI
 n:Nat
 wm:Nat
structure Fr where
 e:Tr Value
 nt:Nat
 s:St
 ms:List Nat
def ev (e:Tr Value):Operand→Value
 | .tmp t=>match e.get t with
  |some v=>v
  |none=>undef
 | .const v=>v
 | .global g=> .pointer (some ⟨g,0,none⟩)
 | .func f=> .func (.func f) #[] #[]
def scalar:Value→Bool
 | .agg _=>false
 | .tuple _=>false
 |_=>true
def TI.isAgg (t:TI):Bool:=
 match t.kind with
 | .struct _=>true
 | .array _ _=>true
 |_=>false
def bc:Value→List Value
 | .agg cs=>cs.toList
 |v=> [v]
def bY (cs:List Value) (off:Nat) (vs:List Value):List Value:=cs.take off++(vs++cs.drop (off+vs.length))
def cW (s:St) (b off n:Nat):Option (List Value):=
 match s.h.get b with
 |some (.cells cs _ _ _)=>match Nat.ble (off+n) cs.length with
  |true=>some ((cs.drop off).take n)
  |false=>none
 |_=>none
def eW (s:St) (b off:Nat) (vs:List Value):Option St:=
 match s.h.get b with
 |some (.cells cs e sl true)=>match Nat.ble (off+vs.length) cs.length && vs.all scalar with
  |true=>some { s with h:=s.h.set b (.cells (bY cs off vs) e sl true),wm:=min s.wm b }
  |false=>none
 |_=>none
def newObj (s:St) (o:eI):St:= { s with h:=s.h.set s.n o,n:=s.n+1 }
def eS (s:St) (cs:List Value) (e:Nat) (Fi:Bool):Value×St:=(.pointer (some ⟨s.n,0,none⟩),newObj s (.cells cs e Fi true))
def loadT (t:TI) (s:St) (a:Addr):Option Value:=
 match t.isAgg with
 |true=>match cW s a.block a.off t.size with
  |some l=>some (.agg ⟨l⟩)
  |none=>none
 |false=>match cW s a.block a.off 1 with
  |some (v::_)=>some v
  |_=>none
def storeT (t:TI) (s:St) (a:Addr) (v:Value):Option St:=
 match Nat.beq (bc v).length t.size with
 |true=>eW s a.block a.off (bc v)
 |false=>none
def part (t:TI) (cs:List Value) (off:Nat):Option Value:=
 match t.isAgg with
 |true=>match Nat.ble (off+t.size) cs.length with
  |true=>some (.agg ⟨(cs.drop off).take t.size⟩)
  |false=>none
 |false=>match cs.drop off with
  |v::_=>some v
  | []=>none
def fG (place:Nat→Option (Nat×Nat)):List Value→List (Nat×Value)→Option (List Value)
 |cs, []=>some cs
 |cs,(i,v)::rest=>
  match place i with
  |none=>none
  |some (off,size)=>match Nat.beq (bc v).length size && Nat.ble (off+size) cs.length with
   |true=>fG place (bY cs off (bc v)) rest
   |false=>none
def bz:Nat→List Value→List Value
 |0,_=> []
 |n+1,z=>z++bz n z
def nJ (op:BinOp) (k:IntKind) (a b:Int):Option Value:=
 match op with
 | .add=>some (.int k (k.wrap (a+b)))
 | .sub=>some (.int k (k.wrap (a - b)))
 | .mul=>some (.int k (k.wrap (a*b)))
 | .quo=>if b=0 then none else some (.int k (k.wrap (a.tdiv b)))
 | .rem=>if b=0 then none else some (.int k (a.tmod b))
 | .eql=>some (.bool (a == b))
 | .neq=>some (.bool (a != b))
 | .lss=>some (.bool (decide (a<b)))
 | .leq=>some (.bool (decide (a≤b)))
 | .gtr=>some (.bool (decide (a>b)))
 | .geq=>some (.bool (decide (a≥b)))
 | .and=>some (.int k (k.wrap ((BitVec.ofInt k.bits a &&& BitVec.ofInt k.bits b).toNat)))
 | .or=>some (.int k (k.wrap ((BitVec.ofInt k.bits a |||BitVec.ofInt k.bits b).toNat)))
 | .xor=>some (.int k (k.wrap ((BitVec.ofInt k.bits a ^^^ BitVec.ofInt k.bits b).toNat)))
 |_=>none
def pA (op:BinOp) (k:IntKind) (a b:Int):Option Value:=
 if b<0 then none else
 match op with
 | .shl=>some (.int k (k.wrap (a*2 ^ (min b.toNat k.bits))))
 | .shr=>some (.int k (a.fdiv (2 ^ (min b.toNat k.bits))))
 |_=>none
def Ff (op:BinOp) (a b:ByteArray):Option Value:=
 match op with
 | .eql=>some (.bool (a.toList == b.toList))
 | .neq=>some (.bool (!(a.toList == b.toList)))
 |_=>none
def sH (t:TI) (x y:Value):Option Bool:=
  match t.kind,x,y with
  | .bool,.bool a,.bool b=>some (a == b)
  | .pointer _,.pointer none,.pointer b=>some b.isNone
  | .pointer _,.pointer (some _),.pointer none=>some false
  | .slice _,.slice none _ _,.slice b _ _=>some b.isNone
  | .slice _,.slice (some _) _ _,.slice none _ _=>some false
  | .map _ _,.map none,.map b=>some b.isNone
  | .map _ _,.map (some _),.map none=>some false
  | .func,.nilFunc,.nilFunc=>some true
  | .func,.nilFunc,.func _ _ _=>some false
  | .func,.func _ _ _,.nilFunc=>some false
  |_,_,_=>none
def bin (op:BinOp) (t:Option TI) (x y:Value):Option Value:=
 match x,y with
 | .int k a,.int k' b=>match op with
  | .shl=>pA .shl k a b
  | .shr=>pA .shr k a b
  |op=>if k=k' then nJ op k a b else none
 | .string a,.string b=>Ff op a b
 |x,y=>match op,t with
  | .eql,some t=>match sH t x y with
   |some b=>some (.bool b)
   |none=>none
  | .neq,some t=>match sH t x y with
   |some b=>some (.bool (!b))
   |none=>none
  |_,_=>none
def un (op:UnOp) (x:Value):Option Value:=
 match op,x with
 | .neg,.int k n=>some (.int k (k.wrap (0 - n)))
 | .xor,.int k n=>some (.int k (k.wrap ((BitVec.ofInt k.bits (if k.signed then -1 else k.max) ^^^ BitVec.ofInt k.bits n).toNat)))
 | .not,.bool b=>some (.bool (!b))
 |_,_=>none
def eH:List Value→Option (List UInt8)
 | []=>some []
 | .int .u8 n::r=>match eH r with
  |some l=>some (UInt8.ofNat n.toNat::l)
  |none=>none
 |_::_=>none
def ofBytes (l:List UInt8):List Value:=l.map fun b=> .int .u8 b.toNat
def bound (x:Option Value) (most dflt:Nat):Option Nat:=
 match x with
 |none=>some dflt
 |some (.int _ i)=>if 0≤i∧i≤most then some i.toNat else none
 |some _=>none
def items (te:TI) (s:St):Value→Option (Nat×List Value)
 | .slice none 0 _=>some (0, [])
 | .slice (some a) n _=>match cW s a.block a.off (n*te.size) with
  |some l=>some (n,l)
  |none=>none
 | .string st=>match Nat.beq te.size 1 with
  |true=>some (st.size,ofBytes st.data.toList)
  |false=>none
 |_=>none
def cy (te:TI) (e:Nat) (s:St) (x y:Value):Option (Value×St):=
 match items te s y with
 |none=>none
 |some (n,l)=>
  match x with
  | .slice none 0 0=>match n with
   |0=>some (x,s)
   |n+1=>match Nat.ble ((n+1)*te.bytes) 140737488355328 && Nat.blt 0 te.bytes && Nat.beq l.length ((n+1)*te.size) && l.all scalar with
    |true=>some (.slice (some ⟨s.n,0,none⟩) (n+1) (n+1),newObj s (.cells l e true true))
    |false=>none
  | .slice (some a) len cap=>match Nat.ble len cap with
   |false=>none
   |true=>match n with
    |0=>some (x,s)
    |n+1=>match Nat.ble (len+(n+1)) cap with
     |true=>match eW s a.block (a.off+len*te.size) l with
      |some s=>some (.slice (some a) (len+(n+1)) cap,s)
      |none=>none
     |false=>match Nat.ble ((len+(n+1))*te.bytes) 140737488355328 && Nat.blt 0 te.bytes && Nat.beq l.length ((n+1)*te.size) && l.all scalar with
      |false=>none
      |true=>match s.h.get a.block with
       |some (.cells cs _ false _)=>match Nat.ble (a.off+len*te.size) cs.length with
        |true=>some (.slice (some ⟨s.n,0,none⟩) (len+(n+1)) (len+(n+1)),newObj s (.cells ((cs.drop a.off).take (len*te.size)++l) e true true))
        |false=>none
       |some (.cells cs e' true true)=>match Nat.beq e' e && Nat.beq a.off 0 && Nat.beq (len*te.size) cs.length && Nat.beq cap len with
        |true=>some (.slice (some ⟨s.n,0,none⟩) (len+(n+1)) (len+(n+1)),
          newObj { s with h:=s.h.set a.block .dead,wm:=min s.wm a.block } (.cells (cs++l) e true true))
        |false=>none
       |_=>none
  |_=>none
def fO (te:TI) (e:Nat) (s:St) (x y:Value):Option (Value×St):=
 match x,y with
 | .slice none 0 0,.int .i64 n=>if 0<n∧n.toNat*te.bytes≤140737488355328∧0<te.bytes then
   some (.slice (some ⟨s.n,0,none⟩) n.toNat n.toNat,newObj s (.cells (bz n.toNat (bc te.zero)) e true true))
  else none
 |_,_=>none
def copyV (te:TI) (s:St) (x y:Value):Option (Value×St):=
 match x with
 | .slice none 0 _=>match y with
  | .slice none _ _=>some (.int .i64 0,s)
  | .slice (some _) _ _=>some (.int .i64 0,s)
  | .string _=>some (.int .i64 0,s)
  |_=>none
 | .slice (some a) len _=>
  match items te s y with
  |none=>none
  |some (n,l)=>
   let m:=min n len
   match m with
   |0=>some (.int .i64 0,s)
   |m+1=>match Nat.beq l.length (n*te.size) with
    |true=>match eW s a.block a.off (l.take ((m+1)*te.size)) with
     |some s=>some (.int .i64 (m+1:Nat),s)
     |none=>none
    |false=>none
 |_=>none
def ju (gt:Bool):Value→List Value→Option Value
 | .int k a, []=>some (.int k a)
 | .int k a,.int _ b::r=>ju gt (.int k (if gt then (if b>a then b else a) else (if b<a then b else a))) r
 |_,_=>none
def eQ (k:Value):List (Value×Value)→Option (Option Value)
 | []=>some none
 |(k',v)::r=>
  match k,k' with
  | .int q a,.int q' b=>if q=q' then (if a=b then some (some v) else eQ k r) else none
  |_,_=>none
def jv (k v:Value):List (Value×Value)→List (Value×Value)
 | []=> [(k,v)]
 |(k',v')::r=>
  match k,k' with
  | .int _ a,.int _ b=>if a=b then (k,v)::r else (k',v')::jv k v r
  |_,_=>(k',v')::jv k v r
inductive jL where
 |val (v:Value)
 |call (f:Nat) (args:List Value)
 |round (l:Nat) (args:List Value)
abbrev Types:=Tr TI
def one (o:Option Value) (s:St):Option (jL×St):=
 match o with
 |some v=>some (.val v,s)
 |none=>none
def two (o:Option (Value×St)):Option (jL×St):=
 match o with
 |some (v,s)=>some (.val v,s)
 |none=>none
def three (o:Option St):Option (jL×St):=
 match o with
 |some s=>some (.val undef,s)
 |none=>none
def bI (T:Types) (b:Builtin) (ts:List Nat) (args:List Value) (s:St):Option (jL×St):=
 match b,ts,args with
 | .len, [t], [x]=>match T.get t,x with
  |some { kind:= .string, .. },.string st=>some (.val (.int .i64 st.size),s)
  |some { kind:= .array n _, .. },_=>some (.val (.int .i64 n),s)
  |some { kind:= .slice _, .. },.slice _ n _=>some (.val (.int .i64 n),s)
  |some { kind:= .map _ _, .. },.map none=>some (.val (.int .i64 0),s)
  |some { kind:= .map _ _, .. },.map (some r)=>match s.h.get r with
   |some (.map es _)=>some (.val (.int .i64 es.length),s)
   |_=>none
  |_,_=>none
 | .cap, [t], [x]=>match T.get t,x with
  |some { kind:= .slice _, .. },.slice none _ c=>some (.val (.int .i64 c),s)
  |some { kind:= .slice _, .. },.slice (some a) _ c=>match s.h.get a.block with
   |some (.cells _ _ false _)=>some (.val (.int .i64 c),s)
   |_=>none
  |_,_=>none
 | .append, [t,u], [x,y]=>match T.get t,T.get u with
  |some { kind:= .slice e, .. },some { kind:= .slice _, .. } =>match T.get e,y with
   |some te,.slice a n c=>two (cy te e s x (.slice a n c))
   |_,_=>none
  |some { kind:= .slice e, .. },some { kind:= .string, .. } =>match T.get e,y with
   |some te,.string st=>two (cy te e s x (.string st))
   |_,_=>none
  |some { kind:= .slice e, .. },some { kind:= .int _, .. } =>match T.get e with
   |some te=>two (fO te e s x y)
   |none=>none
  |_,_=>none
 | .copy, [t,_], [x,y]=>match T.get t with
  |some { kind:= .slice e, .. } =>match T.get e with
   |some te=>two (copyV te s x y)
   |none=>none
  |_=>none
 | .max,_,x::r=>one (ju true x r) s
 | .min,_,x::r=>one (ju false x r) s
 |_,_,_=>none
def fh (T:Types) (t:Nat) (x:Value) (lo hi mx:Option Value):Option Value:=
 match T.get t with
 |none=>none
 |some ti=>
  match ti.kind,x with
  | .string,.string st=>match mx with
   |some _=>none
   |none=>match bound hi st.size st.size with
    |none=>none
    |some h=>match bound lo h 0 with
     |none=>none
     |some l=>some (.string (st.extract l h))
  | .slice e,.slice a len cap=>match T.get e with
   |none=>none
   |some te=>match bound mx cap cap with
    |none=>none
    |some m=>match bound hi m len with
     |none=>none
     |some h=>match bound lo h 0,Nat.ble h m with
      |some l,true=>match a with
       |none=>some (.slice none (h - l) (m - l))
       |some a=>some (.slice (some ⟨a.block,a.off+l*te.size,none⟩) (h - l) (m - l))
      |_,_=>none
  | .array n e,.pointer (some a)=>match T.get e with
   |none=>none
   |some te=>match bound mx n n with
    |none=>none
    |some m=>match bound hi m n with
     |none=>none
     |some h=>match bound lo h 0,Nat.ble h m with
      |some l,true=>some (.slice (some ⟨a.block,a.off+l*te.size,none⟩) (h - l) (m - l))
      |_,_=>none
  |_,_=>none
def ek (T:Types) (t:Nat) (x ix:Value):Option Value:=
 match T.get t,x,ix with
 |some { kind:= .slice e, .. },.slice (some a) len _,.int _ i=>match T.get e with
  |some te=>if 0≤i∧i<len then some (.pointer (some ⟨a.block,a.off+i.toNat*te.size,none⟩)) else none
  |none=>none
 |some { kind:= .array len e, .. },.pointer (some a),.int _ i=>match T.get e with
  |some te=>if 0≤i∧i<len then some (.pointer (some ⟨a.block,a.off+i.toNat*te.size,none⟩)) else none
  |none=>none
 |_,_,_=>none
def ij (T:Types) (t:Nat) (x ix:Value):Option Value:=
 match T.get t,x,ix with
 |some { kind:= .array len e, .. },.agg cs,.int _ i=>match T.get e with
  |some te=>if 0≤i∧i<len then part te cs.toList (i.toNat*te.size) else none
  |none=>none
 |some { kind:= .string, .. },.string st,.int _ i=>if 0≤i then (match st.data.toList.drop i.toNat with
   |b::_=>some (.int .u8 b.toNat)
   | []=>none) else none
 |_,_,_=>none
def rI (s:St) (x:Value):Option (List (Value×Value)):=
 match x with
 | .map none=>some []
 | .map (some r)=>match s.h.get r with
  |some (.map es _)=>some es
  |_=>none
 |_=>none
def uM (z:Value) (ok:Bool):Option Value→Value
 |some v=>match ok with
  |true=> .tuple #[v,.bool true]
  |false=>v
 |none=>match ok with
  |true=> .tuple #[z,.bool false]
  |false=>z
def fV (T:Types) (t:Nat) (s:St) (x k:Value) (ok:Bool):Option Value:=
 match T.get t with
 |some { kind:= .map kt vt, .. } =>match T.get kt,T.get vt with
  |some { kind:= .int _, .. },some tv=>match rI s x,k with
   |some es,.int q a=>match eQ (.int q a) es with
    |some f=>some (uM tv.zero ok f)
    |none=>none
   |_,_=>none
  |_,_=>none
 |_=>none
def fj (T:Types) (t:Nat) (s:St) (x k v:Value):Option St:=
 match T.get t with
 |some { kind:= .map kt _, .. } =>match T.get kt,x,k with
  |some { kind:= .int _, .. },.map (some r),.int _ _=>match s.h.get r with
   |some (.map es true)=>match eQ k es with
    |some _=>some { s with h:=s.h.set r (.map (jv k v es) true),wm:=min s.wm r }
    |none=>none
   |_=>none
  |_,_,_=>none
 |_=>none
def iI (T:Types) (t:Nat) (ps:List (Nat×Value)):Option Value:=
 match T.get t with
 |some { kind:= .struct fs,zero:=z, .. } =>
  match fG (fun i=>match fs.drop i with
   |(ft,off)::_=>match T.get ft with
    |some ti=>some (off,ti.size)
    |none=>none
   | []=>none) (bc z) ps with
  |some l=>some (.agg ⟨l⟩)
  |none=>none
 |some { kind:= .array _ e,zero:=z, .. } =>match T.get e with
  |some te=>match fG (fun i=>some (i*te.size,te.size)) (bc z) ps with
   |some l=>some (.agg ⟨l⟩)
   |none=>none
  |none=>none
 |_=>none
def cI (T:Types) (t len:Nat) (ps:List (Nat×Value)) (s:St):Option (Value×St):=
 match T.get t with
 |some { kind:= .slice e, .. } =>match T.get e with
  |some te=>match Nat.ble (len*te.size) 16777216 with
   |true=>match fG (fun i=>some (i*te.size,te.size)) (bz len (bc te.zero)) ps with
    |some l=>some (.slice (some ⟨s.n,0,none⟩) len len,newObj s (.cells l e false true))
    |none=>none
   |false=>none
  |none=>none
 |_=>none
def bQ (T:Types) (t:Nat) (len cap:Value) (s:St):Option (Value×St):=
 match T.get t,len,cap with
 |some { kind:= .slice e, .. },.int .i64 l,.int .i64 c=>match T.get e with
  |some te=>if 0≤l∧l≤c∧te.bytes*c≤281474976710656∧c≤4611686018427387904 then
    some (.slice (some ⟨s.n,0,none⟩) l.toNat c.toNat,newObj s (.cells (bz c.toNat (bc te.zero)) e false true))
   else none
  |none=>none
 |_,_,_=>none
def df (T:Types) (src dst:Nat) (x:Value) (s:St):Option (Value×St):=
 match T.get src,T.get dst,x with
 |some { kind:= .int _, .. },some { kind:= .int k, .. },.int _ n=>some (.int k (k.wrap n),s)
 |some { kind:= .string, .. },some { kind:= .string, .. },.string st=>some (.string st,s)
 |some { kind:= .slice e, .. },some { kind:= .string, .. },.slice a len _=>match T.get e with
  |some { kind:= .int .u8, .. } =>match a with
   |none=>some (.string .empty,s)
   |some a=>match cW s a.block a.off len with
    |some l=>match eH l with
     |some bs=>some (.string ⟨bs.toArray⟩,s)
     |none=>none
    |none=>none
  |_=>none
 |some { kind:= .string, .. },some { kind:= .slice e, .. },.string st=>match T.get e with
  |some { kind:= .int .u8,size:=z, .. } =>match Nat.beq z 1 with
   |true=>some (.slice (some ⟨s.n,0,none⟩) st.size st.size,newObj s (.cells (ofBytes st.data.toList) e true true))
   |false=>none
  |_=>none
 |_,_,_=>none
def eh (T:Types) (t:Nat) (x:Value) (f:Nat):Option Value:=
 match T.get t,x with
 |some { kind:= .struct fs, .. },.pointer (some a)=>match fs.drop f with
  |(ft,off)::_=>match T.get ft with
   |some ti=>match Nat.blt 0 ti.size with
    |true=>some (.pointer (some ⟨a.block,a.off+off,none⟩))
    |false=>none
   |none=>none
  | []=>none
 |_,_=>none
def iK (T:Types) (t:Nat) (x:Value) (f:Nat):Option Value:=
 match T.get t,x with
 |some { kind:= .struct fs, .. },.agg cs=>match fs.drop f with
  |(ft,off)::_=>match T.get ft with
   |some ti=>part ti cs.toList off
   |none=>none
  | []=>none
 |_,_=>none
def dG (T:Types) (c:Call) (ρ:Operand→Value) (s:St):Option (jL×St):=
 match c.callee with
 | .builtin b=>bI T b c.argTypes.toList (c.args.toList.map ρ) s
 | .invoke _ _=>none
 | .value f=>match ρ f with
  | .func (.func g) first captured=>some (.call g (first.toList++(c.args.toList.map ρ++captured.toList)),s)
  | .func (.yield l) first _=>some (.round l (first.toList++c.args.toList.map ρ),s)
  |_=>none
def pairs (ρ:Operand→Value) (ps:Array (Nat×Operand)):List (Nat×Value):=ps.toList.map fun p=>(p.1,ρ p.2)
def evalOp (T:Types) (ρ:Operand→Value) (s:St) (o:Op):Option (jL×St):=
 match o with
 | .move x=>some (.val (ρ x),s)
 | .assign x=>some (.val (ρ x),s)
 | .pick c a b=>match ρ c with
  | .bool true=>some (.val (ρ a),s)
  | .bool false=>some (.val (ρ b),s)
  |_=>none
 | .alloc t=>match T.get t with
  |some ti=>two (some (eS s (bc ti.zero) t false))
  |none=>none
 | .box t x=>two (some (eS s (bc (ρ x)) t false))
 | .build t ps=>one (iI T t (pairs ρ ps)) s
 | .buildSlice t len ps=>two (cI T t len (pairs ρ ps) s)
 | .load t a=>match T.get t,ρ a with
  |some ti,.pointer (some a)=>one (loadT ti s a) s
  |_,_=>none
 | .store t a x=>match T.get t,ρ a with
  |some ti,.pointer (some a)=>three (storeT ti s a (ρ x))
  |_,_=>none
 | .nilCheck x=>match ρ x with
  | .pointer (some a)=>some (.val (.pointer (some a)),s)
  | .func (.func f) a b=>some (.val (.func (.func f) a b),s)
  | .func (.yield l) a b=>some (.val (.func (.yield l) a b),s)
  |_=>none
 | .binOp op t x y _=>one (bin op (T.get t) (ρ x) (ρ y)) s
 | .unOp op _ x=>one (un op (ρ x)) s
 | .convert a b x=>two (df T a b (ρ x) s)
 | .makeFunc fn first captured=>match fn with
  | .func f=>some (.val (.func (.func f) ⟨first.toList.map ρ⟩ ⟨captured.toList.map ρ⟩),s)
  |_=>none
 | .makeMap t r=>match T.get t,r with
  |some { kind:= .map _ _, .. },none=>two (some (.map (some s.n),newObj s (.map [] true)))
  |_,_=>none
 | .makeSlice t l c=>two (bQ T t (ρ l) (ρ c) s)
 | .slice t x lo hi mx=>match hi,mx with
  |none,some _=>none
  |hi,mx=>one (fh T t (ρ x) (lo.map ρ) (hi.map ρ) (mx.map ρ)) s
 | .fieldAddr t x f=>one (eh T t (ρ x) f) s
 | .field t x f=>one (iK T t (ρ x) f) s
 | .indexAddr t x i=>one (ek T t (ρ x) (ρ i)) s
 | .index t x i=>one (ij T t (ρ x) (ρ i)) s
 | .lookup t x i ok=>one (fV T t s (ρ x) (ρ i) ok) s
 | .mapUpdate t m k v=>three (fj T t s (ρ m) (ρ k) (ρ v))
 | .extract t i=>match ρ t with
  | .tuple vs=>match vs.toList.drop i with
   |v::_=>some (.val v,s)
   | []=>none
  |_=>none
 | .call c=>dG T c ρ s
 |_=>none
abbrev Reach:=Option (List Nat)
def Reach.meets:Reach→Reach→Bool
 |some [],_=>false
 |_,some []=>false
 |none,_=>true
 |_,none=>true
 |some a,some b=>a.any fun x=>b.contains x
def bC:Value→List Nat
 | .pointer (some a)=> [a.block]
 | .slice (some a) _ _=> [a.block]
 | .map (some r)=> [r]
 |_=> []
def ag (ρ:Operand→Value):Op→Reach
 | .load _ a=>some (bC (ρ a))
 | .store _ a _=>some (bC (ρ a))
 | .lookup _ x _ _=>some (bC (ρ x))
 | .mapUpdate _ x _ _=>some (bC (ρ x))
 | .convert _ _ x=>some (bC (ρ x))
 | .call c=>match c.callee with
  | .builtin _=>some (c.args.toList.flatMap fun x=>bC (ρ x))
  |_=>none
 |_=>some []
def bA (ρ:Operand→Value):Op→Reach
 | .store _ a _=>some (bC (ρ a))
 | .mapUpdate _ x _ _=>some (bC (ρ x))
 | .call c=>match c.callee with
  | .builtin _=>match c.args.toList with
   |x::_=>some (bC (ρ x))
   | []=>some []
  |_=>none
 |_=>some []
def writes (ρ:Operand→Value) (o:Op) (wrote:Bool):Reach:=
 match wrote with
 |false=>some []
 |true=>bA ρ o
inductive VX where
 |normal
 |exit (id:Nat)
 |ret
def cg (ops:Array Oper) (e:Tr Value) (o:Oper):Bool:=
 match o.guard with
 |none=>true
 |some (j,want)=>match (ops[j]?).bind (·.dst) with
  |none=>false
  |some d=>match e.get d with
   |some (.bool b)=>b == want
   |_=>false
def put (fr:Fr) (dst:Option Nat) (v:Value) (s:St):Option Fr:=
 match dst with
 |none=>some { fr with s:=s }
 |some d=>match Nat.blt d fr.nt with
  |true=>some { fr with e:=fr.e.set d v,s:=s }
  |false=>none
def jR:Nat→List Oper→Bool
 |_, []=>true
 |i,o::r=>o.after.toList.all (fun e=> !(Region.binds .any e) || Nat.blt e.on i) && jR (i+1) r
def looks (ops:Array Oper) (o:Oper):List Nat:=
 (o.op.operands.toList.filterMap fun| .tmp t=>some t|_=>none)++
 (match o.guard with
  |some (g,_)=>((ops[g]?).bind (·.dst)).toList
  |none=> [])
def fixed (bf:List Nat) (i j:Nat):Bool:=Nat.beq i j || (match Nat.blt i j with
 |true=>(bf.getD j 0).testBit i
 |false=>(bf.getD i 0).testBit j)
def zf (ops:Array Oper) (bf:List Nat) (l:List (Oper×Nat)):Bool:=
 l.all fun x=>match x.1.dst with
  |none=>true
  |some d=>l.all fun y=>(!((looks ops y.1).contains d) && !(y.1.dst == some d)) || fixed bf x.2 y.2
def nK (acc:List Nat):List Edge→Nat
 | []=>0
 |e::r=>match Region.binds .any e with
  |true=>(2 ^ e.on |||acc.getD e.on 0) |||nK acc r
  |false=>nK acc r
def iR:List Nat→List Oper→List Nat
 |acc, []=>acc
 |acc,o::r=>iR (acc++ [nK acc o.after.toList]) r
structure de where
 t:Reach
 w:Reach
 lo:Nat
 hi:Nat
def de.fF (x y:de):Bool:=x.w.meets y.t || x.w.meets y.w || (match x.w with
 |some l=>l.any fun b=>Nat.ble y.lo b && Nat.blt b y.hi
 |none=>Nat.blt y.lo y.hi)
def rX (ops:Array Oper):Bool:=jR 0 ops.toList && zf ops (iR [] ops.toList) ops.toList.zipIdx
def je (ops:Array Oper) (flags:List de):Bool:=
 flags.zipIdx.all fun x=>match x.1.w with
  |some []=>true
  |_=>flags.zipIdx.all fun y=> !(x.1.fF y.1) || fixed (iR [] ops.toList) x.2 y.2
inductive Task where
 |code (c:Code) (ro:Option Nat) (fr:Fr)
 |run (ops:Array Oper) (dr:Bool) (flags:List de) (l:List Oper) (fr:Fr)
 |call (f:Nat) (args:List Value) (s:St)
 |round (l:Nat) (args:List Value) (s:St)
inductive ep where
 |code (x:VX) (fr:Fr)
 |val (v:Value) (s:St)
def cD (T:Types) (rs:List ResultVar) (fr:Fr):Option (List Value):=
 match rs with
 | []=>some []
 | .tmp t::r=>match cD T r fr with
  |some l=>some (ev fr.e (.tmp t)::l)
  |none=>none
 | .cell a t::r=>match T.get t,ev fr.e (.tmp a) with
  |some ti,.pointer (some a)=>match loadT ti fr.s a with
   |some v=>match cD T r fr with
    |some l=>some (v::l)
    |none=>none
   |none=>none
  |_,_=>none
def fi:List Value→Value
 | [v]=>v
 |l=> .tuple ⟨l⟩
def shut:List Nat→St→Option St
 | [],s=>some s
 |b::r,s=>match s.h.get b with
  |some .defs=>shut r { s with h:=s.h.set b .dead,wm:=min s.wm b }
  |_=>none
def dN:List Nat→List Value→Nat→Tr Value→Option (Tr Value)
 | [], [],_,e=>some e
 |t::ts,v::vs,nt,e=>match Nat.blt t nt with
  |true=>dN ts vs nt (e.set t v)
  |false=>none
 |_,_,_,_=>none
def cM (s:St) (l:Nat) (r:pQ):St:= { s with h:=s.h.set l (.loop r),wm:=min s.wm l }
def done (fr:Fr) (o:Oper) (v:Value) (s:St) (c:Fr→Bool→Nat→Option ep):Option ep:=
 match put fr o.dst v { s with wm:=min fr.s.wm s.wm } with
 |none=>none
 |some fr'=>c fr' (Nat.blt s.wm fr.s.n) s.n
abbrev Rec:=Task→Option ep
abbrev aL:=Nat→List Value→St→Option (Value×St)
def b9 (rec:Rec) (ro:Option Nat) (fr:Fr) (f:Operand) (ps:Array Tmp) (assign body:Code) (d:Nat) (ms:List Nat) (s:St):Option ep:=
 match ev fr.e f with
 | .func (.func g) first captured=>
  match rec (.call g (first.toList++(.func (.yield s.n) #[] #[]::captured.toList))
    (newObj s (.loop { state:= .ready,pending:=none,fn:=0,e:=fr.e,nt:=fr.nt,params:=ps.toList,assign:=assign,body:=body,defers:=d }))) with
  |some (.val _ s')=>match s'.h.get s.n with
   |some (.loop r)=>match r.state with
    | .busy=>none
    |_=>match r.pending with
     |none=>some (.code .normal { fr with s:=cM s' s.n { r with state:= .exhausted },ms:=ms })
     |some c=>rec (.code c ro { fr with s:=cM s' s.n { r with state:= .exhausted },ms:=ms })
   |_=>none
  |_=>none
 |_=>none
def dJ (rec:Rec) (ro:Option Nat) (fr:Fr) (c:Code):Option ep:=
 match rec (.code c ro fr) with
 |some (.code .normal fr)=>rec (.code (.loop c) ro fr)
 |r=>r
def eT (rec:Rec) (ro:Option Nat) (fr:Fr) (a b:Code):Option ep:=
 match rec (.code a ro fr) with
 |some (.code .normal fr)=>rec (.code b ro fr)
 |r=>r
def dC (rec:Rec) (ro:Option Nat) (fr:Fr) (id:Nat) (c:Code):Option ep:=
 match rec (.code c ro fr) with
 |some (.code (.exit j) fr)=>match Nat.beq j id with
  |true=>some (.code .normal fr)
  |false=>some (.code (.exit j) fr)
 |r=>r
def eo (rec:Rec) (ro:Option Nat) (fr:Fr) (c:Operand) (a b:Code):Option ep:=
 match ev fr.e c with
 | .bool true=>rec (.code a ro fr)
 | .bool false=>rec (.code b ro fr)
 |_=>none
def fX (rec:Rec) (ro:Option Nat) (fr:Fr) (f:Operand) (ps:Array Tmp) (assign body:Code):Option ep:=
 match ro with
 |some l=>match fr.s.h.get l with
  |some (.loop r)=>b9 rec ro fr f ps assign body r.defers fr.ms fr.s
  |_=>none
 |none=>b9 rec ro fr f ps assign body fr.s.n (fr.s.n::fr.ms) (newObj fr.s .defs)
def cN (rec:Rec) (c:Code) (ro:Option Nat) (fr:Fr):Option ep:=
 match c with
 | .skip=>some (.code .normal fr)
 | .label _=>some (.code .normal fr)
 | .ret=>some (.code .ret fr)
 | .exit id=>some (.code (.exit id) fr)
 | .goto _=>none
 | .region _ ops dr=>rec (.run ops dr [] ops.toList fr)
 | .seq a b=>eT rec ro fr a b
 | .cond c a b=>eo rec ro fr c a b
 | .block id c=>dC rec ro fr id c
 | .loop c=>dJ rec ro fr c
 | .scope c=>rec (.code c ro fr)
 | .rangeFunc f ps assign body=>fX rec ro fr f ps assign body
 | .refuse _=>none
def cQ (dr:Bool) (x:de) (l:List de):List de:=
 match dr with
 |true=>x::l
 |false=>l
def dV (T:Types) (rec:Rec) (ops:Array Oper) (dr:Bool) (flags:List de) (o:Oper) (l:List Oper) (fr:Fr):Option ep:=
 match evalOp T (ev fr.e) { fr.s with wm:=fr.s.n } o.op with
 |none=>none
 |some (.val v,s)=>done fr o v s (fun fr' wr m=>rec (.run ops dr (cQ dr ⟨ag (ev fr.e) o.op,writes (ev fr.e) o.op wr,fr.s.n,m⟩ flags) l fr'))
 |some (.call f args,s)=>match rec (.call f args s) with
  |some (.val v s)=>done fr o v s (fun fr' wr m=>rec (.run ops dr (cQ dr ⟨none,writes (ev fr.e) o.op wr,fr.s.n,m⟩ flags) l fr'))
  |_=>none
 |some (.round r args,s)=>match rec (.round r args s) with
  |some (.val v s)=>done fr o v s (fun fr' wr m=>rec (.run ops dr (cQ dr ⟨none,writes (ev fr.e) o.op wr,fr.s.n,m⟩ flags) l fr'))
  |_=>none
def cB (T:Types) (rec:Rec) (ops:Array Oper) (dr:Bool) (flags:List de) (l:List Oper) (fr:Fr):Option ep:=
 match l with
 | []=>match dr with
  |false=>some (.code .normal fr)
  |true=>match je ops flags.reverse with
   |true=>some (.code .normal fr)
   |false=>none
 |o::l=>
  match cg ops fr.e o with
  |false=>done fr o undef fr.s (fun fr' _ m=>rec (.run ops dr (cQ dr ⟨some [],some [],m,m⟩ flags) l fr'))
  |true=>dV T rec ops dr flags o l fr
def leave (T:Types) (fn:Func) (fr:Fr):Option ep:=
 match shut fr.ms fr.s with
 |none=>none
 |some s=>match cD T fn.results.toList { fr with s:=s } with
  |some l=>some (.val (fi l) s)
  |none=>none
def cZ (O:aL) (G:Tr Func) (T:Types) (rec:Rec) (f:Nat) (args:List Value) (s:St):Option ep:=
 match O f args s with
 |some (v,s)=>some (.val v s)
 |none=>match G.get f with
  |none=>none
  |some fn=>match fn.body with
   |none=>none
   |some c=>match Nat.ble args.length fn.ntmps with
    |false=>none
    |true=>match rec (.code c none { e:=Tr.ofList .leaf 0 args,nt:=fn.ntmps,s:=s,ms:= [] }) with
     |some (.code .normal fr)=>leave T fn fr
     |some (.code .ret fr)=>leave T fn fr
     |_=>none
def endRound (l:Nat) (x:VX) (fr:Fr):Option ep:=
 match fr.s.h.get l with
 |some (.loop r)=>match x with
  | .normal=>some (.val (.bool true) (cM fr.s l { r with state:= .ready,pending:=none }))
  | .ret=>some (.val (.bool false) (cM fr.s l { r with state:= .done,pending:=some .ret }))
  | .exit id=>some (.val (.bool false) (cM fr.s l { r with state:= .done,pending:=some (.exit id) }))
 |_=>none
def fL (rec:Rec) (l:Nat) (body:Code) (fr:Fr):Option ep:=
 match fr.s.h.get l with
 |some (.loop r)=>match r.state with
  | .ready=>match rec (.code body (some l) { fr with s:=cM fr.s l { r with state:= .busy } }) with
   |some (.code x fr)=>endRound l x fr
   |_=>none
  |_=>none
 |_=>none
def cu (rec:Rec) (l:Nat) (args:List Value) (s:St):Option ep:=
 match s.h.get l with
 |some (.loop r)=>match dN r.params args r.nt r.e with
  |none=>none
  |some e=>match rec (.code r.assign (some l) { e:=e,nt:=r.nt,s:=s,ms:= [] }) with
   |some (.code .normal fr)=>fL rec l r.body fr
   |_=>none
 |_=>none
def AG (O:aL) (G:Tr Func) (T:Types) (rec:Rec) (t:Task):Option ep:=
 match t with
 | .code c ro fr=>cN rec c ro fr
 | .run ops dr flags l fr=>cB T rec ops dr flags l fr
 | .call f args s=>cZ O G T rec f args s
 | .round l args s=>cu rec l args s
def go (O:aL) (G:Tr Func) (T:Types):Nat→Task→Option ep
 |0,_=>none
 |n+1,t=>AG O G T (go O G T n) t
structure aV (L:Nat→Prop) (s s':St):Prop where
 n:s.n≤s'.n
 wm:s'.wm≤s.wm
 keep: ∀b,b<s.n→s'.h.get b=s.h.get b∨(L b∧s'.wm≤b)
theorem aV.refl (L:Nat→Prop) (s:St):aV L s s:=⟨Nat.le_refl _,Nat.le_refl _,fun _ _=> .inl rfl⟩
theorem aV.mono {L L':Nat→Prop} {s s':St} (h:aV L s s') (hl: ∀b,L b→L' b):aV L' s s':=
 ⟨h.n,h.wm,fun b hb=>(h.keep b hb).imp id fun x=>⟨hl b x.1,x.2⟩⟩
theorem aV.trans {L:Nat→Prop} {s s' tR:St} (h:aV L s s') (h':aV L s' tR):aV L s tR:=by
 refine ⟨Nat.le_trans h.n h'.n,Nat.le_trans h'.wm h.wm,fun b hb=> ?_⟩
 rcases h'.keep b (Nat.lt_of_lt_of_le hb h.n) with e|⟨h1,h2⟩
 ·rcases h.keep b hb with e'|⟨h1,h2⟩
  ·exact .inl (by rw [e,e'])
  ·exact .inr ⟨h1,Nat.le_trans h'.wm h2⟩
 ·exact .inr ⟨h1,h2⟩
theorem aV.new (L:Nat→Prop) (s:St) (o:eI):aV L s (newObj s o):=
 ⟨by simp [newObj],Nat.le_refl _,fun b hb=> .inl (by simp only [newObj];rw [Tr.aK];omega)⟩
theorem aV.set {L:Nat→Prop} (s:St) (b:Nat) (o:eI) (hL:L b):aV L s { s with h:=s.h.set b o,wm:=min s.wm b } :=by
 refine ⟨Nat.le_refl _,by simp;omega,fun c hc=> ?_⟩
 by_cases e:c=b
 ·subst e;exact .inr ⟨hL,by simp;omega⟩
 ·exact .inl (by simp only [];rw [Tr.aK _ _ e])
theorem iq {L:Nat→Prop} {s s':St} {b off:Nat} {l:List Value} (h:eW s b off l=some s') (hL:L b):aV L s s':=by
 unfold eW at h
 split at h
 ·split at h
  ·simp at h;subst h;exact aV.set s b _ hL
  ·cases h
 ·cases h
def bG:Reach→Nat→Prop
 |none,_=>True
 |some l,b=>b∈l
theorem mS {L:Nat→Prop} {te:TI} {e:Nat} {s s':St} {x y v:Value} (h:cy te e s x y=some (v,s')) (hL: ∀b,b∈bC x→L b):aV L s s':=by
 unfold cy at h
 split at h
 ·cases h
 ·split at h
  ·split at h
   ·simp at h;obtain ⟨_,rfl⟩:=h;exact aV.refl _ _
   ·split at h
    ·simp at h;obtain ⟨_,rfl⟩:=h;exact aV.new _ _ _
    ·cases h
  ·rename_i a len cap
   split at h
   ·cases h
   ·split at h
    ·simp at h;obtain ⟨_,rfl⟩:=h;exact aV.refl _ _
    ·split at h
     ·split at h
      ·rename_i hw
       simp at h;obtain ⟨_,rfl⟩:=h
       exact iq hw (hL _ (by simp [bC]))
      ·cases h
     ·split at h
      ·cases h
      ·split at h
       ·split at h
        ·simp at h;obtain ⟨_,rfl⟩:=h;exact aV.new _ _ _
        ·cases h
       ·split at h
        ·simp at h;obtain ⟨_,rfl⟩:=h
         exact (aV.set s a.block .dead (hL _ (by simp [bC]))).trans (aV.new _ _ _)
        ·cases h
       ·cases h
  ·cases h
theorem vX {L:Nat→Prop} {te:TI} {s s':St} {x y v:Value} (h:copyV te s x y=some (v,s')) (hL: ∀b,b∈bC x→L b):aV L s s':=by
 unfold copyV at h
 split at h
 ·split at h<;>first|(simp at h;obtain ⟨_,rfl⟩:=h;exact aV.refl _ _)|cases h
 ·rename_i a len cap
  split at h
  ·cases h
  ·simp only [] at h
   split at h
   ·simp at h;obtain ⟨_,rfl⟩:=h;exact aV.refl _ _
   ·split at h
    ·split at h
     ·rename_i hw
      simp at h;obtain ⟨_,rfl⟩:=h
      exact iq hw (hL _ (by simp [bC]))
     ·cases h
    ·cases h
 ·cases h
theorem eK {L:Nat→Prop} {o:Option Value} {s:St} {r:jL×St} (h:one o s=some r):aV L s r.2:=by
 cases o with
 |none=>cases h
 |some v=>simp [one] at h;subst h;exact aV.refl _ _
theorem fy {L:Nat→Prop} {o:Option (Value×St)} {s:St} {r:jL×St} (h:two o=some r) (ho: ∀v s',o=some (v,s')→aV L s s'):aV L s r.2:=by
 cases o with
 |none=>cases h
 |some x=>obtain ⟨v,s'⟩:=x;simp [two] at h;subst h;exact ho v s' rfl
theorem qa {L:Nat→Prop} {o:Option St} {s:St} {r:jL×St} (h:three o=some r) (ho: ∀s',o=some s'→aV L s s'):aV L s r.2:=by
 cases o with
 |none=>cases h
 |some x=>simp [three] at h;subst h;exact ho x rfl
theorem qX {L:Nat→Prop} {T:Types} {b:Builtin} {ts:List Nat} {args:List Value} {s:St} {r:jL×St} (h:bI T b ts args s=some r) (hL: ∀x l,args=x::l→ ∀b,b∈bC x→L b):aV L s r.2:=by
 unfold bI at h
 split at h
 ·split at h<;>first
   |(cases h;done)
   |(simp at h;subst h;exact aV.refl _ _)
   |(split at h<;>first|(cases h;done)|(simp at h;subst h;exact aV.refl _ _))
 ·split at h<;>first
   |(cases h;done)
   |(simp at h;subst h;exact aV.refl _ _)
   |(split at h<;>first|(cases h;done)|(simp at h;subst h;exact aV.refl _ _))
 ·split at h
  ·split at h
   ·exact fy h fun v s' hv=>mS hv (hL _ _ rfl)
   ·cases h
  ·split at h
   ·exact fy h fun v s' hv=>mS hv (hL _ _ rfl)
   ·cases h
  ·split at h
   ·refine fy h fun v s' hv=> ?_
    unfold fO at hv
    split at hv
    ·split at hv
     ·simp at hv;obtain ⟨_,rfl⟩:=hv;exact aV.new _ _ _
     ·cases hv
    ·cases hv
   ·cases h
  ·cases h
 ·split at h
  ·split at h
   ·exact fy h fun v s' hv=>vX hv (hL _ _ rfl)
   ·cases h
  ·cases h
 ·exact eK h
 ·exact eK h
 ·cases h
theorem fS {T:Types} {ρ:Operand→Value} {s:St} {o:Op} {r:jL×St} (h:evalOp T ρ s o=some r):aV (bG (bA ρ o)) s r.2:=by
 cases o<;>simp only [evalOp] at h<;>try (cases h;done)
 case move x=>simp at h;subst h;exact aV.refl _ _
 case assign x=>simp at h;subst h;exact aV.refl _ _
 case pick c a b=>
  split at h<;>first|(cases h;done)|(simp at h;subst h;exact aV.refl _ _)
 case alloc t=>
  split at h
  ·exact fy h fun v s' hv=>by simp [eS] at hv;obtain ⟨_,rfl⟩:=hv;exact aV.new _ _ _
  ·cases h
 case box t x=>exact fy h fun v s' hv=>by simp [eS] at hv;obtain ⟨_,rfl⟩:=hv;exact aV.new _ _ _
 case build t ps=>exact eK h
 case buildSlice t len ps=>
  refine fy h fun v s' hv=> ?_
  unfold cI at hv
  split at hv
  ·split at hv
   ·split at hv
    ·split at hv
     ·simp at hv;obtain ⟨_,rfl⟩:=hv;exact aV.new _ _ _
     ·cases hv
    ·cases hv
   ·cases hv
  ·cases hv
 case load t a=>
  split at h
  ·exact eK h
  ·cases h
 case store t a x=>
  split at h
  ·rename_i ti p ht hp
   refine qa h fun s' hs=> ?_
   unfold storeT at hs
   split at hs
   ·exact iq hs (by simp [bA,bG,hp,bC])
   ·cases hs
  ·cases h
 case nilCheck x=>
  split at h<;>first|(cases h;done)|(simp at h;subst h;exact aV.refl _ _)
 case binOp=>exact eK h
 case unOp=>exact eK h
 case convert a b x=>
  refine fy h fun v s' hv=> ?_
  unfold df at hv
  split at hv
  ·simp at hv;obtain ⟨_,rfl⟩:=hv;exact aV.refl _ _
  ·simp at hv;obtain ⟨_,rfl⟩:=hv;exact aV.refl _ _
  ·split at hv
   ·split at hv
    ·simp at hv;obtain ⟨_,rfl⟩:=hv;exact aV.refl _ _
    ·split at hv
     ·split at hv
      ·simp at hv;obtain ⟨_,rfl⟩:=hv;exact aV.refl _ _
      ·cases hv
     ·cases hv
   ·cases hv
  ·split at hv
   ·split at hv
    ·simp at hv;obtain ⟨_,rfl⟩:=hv;exact aV.new _ _ _
    ·cases hv
   ·cases hv
  ·cases hv
 case makeFunc fn a b=>
  split at h
  ·simp at h;subst h;exact aV.refl _ _
  ·cases h
 case makeMap t r=>
  split at h
  ·exact fy h fun v s' hv=>by simp at hv;obtain ⟨_,rfl⟩:=hv;exact aV.new _ _ _
  ·cases h
 case makeSlice t l c=>
  refine fy h fun v s' hv=> ?_
  unfold bQ at hv
  split at hv
  ·split at hv
   ·split at hv
    ·simp at hv;obtain ⟨_,rfl⟩:=hv;exact aV.new _ _ _
    ·cases hv
   ·cases hv
  ·cases hv
 case slice t x lo hi mx=>
  split at h
  ·cases h
  ·exact eK h
 case fieldAddr=>exact eK h
 case field=>exact eK h
 case indexAddr=>exact eK h
 case index=>exact eK h
 case lookup=>exact eK h
 case mapUpdate t m k v=>
  refine qa h fun s' hs=> ?_
  unfold fj at hs
  split at hs
  ·split at hs
   ·rename_i r _ _ _ hm
    split at hs
    ·split at hs
     ·simp at hs;subst hs
      refine aV.set s _ _ ?_
      simp only [bA,bG]
      rename_i Ub _ _ _ _ _ _
      first
       |(rw [Ub];simp [bC])
       |simp_all [bC]
     ·cases hs
    ·cases hs
   ·cases hs
  ·cases hs
 case extract t i=>
  split at h
  ·split at h
   ·simp at h;subst h;exact aV.refl _ _
   ·cases h
  ·cases h
 case call c=>
  unfold dG at h
  obtain ⟨callee,args,ats⟩:=c
  cases callee with
  |invoke a b=>simp at h
  |builtin b=>
   simp only [] at h
   refine qX h fun x l hx b hb=> ?_
   simp only [bA,bG]
   cases hargs:args.toList with
   |nil=>simp [hargs] at hx
   |cons y ys=>
    simp [hargs] at hx
    rw [←hx.1] at hb
    exact hb
  |value f=>
   simp only [] at h
   split at h
   ·simp at h;subst h;exact aV.refl _ _
   ·simp at h;subst h;exact aV.refl _ _
   ·cases h
end Go.Vm
end
noncomputable section
namespace Go.Vm
open Go
abbrev cH:=aV fun _=>True
def Fv:Task→St
 | .code _ _ fr=>fr.s
 | .run _ _ _ _ fr=>fr.s
 | .call _ _ s=>s
 | .round _ _ s=>s
def ke:ep→St
 | .code _ fr=>fr.s
 | .val _ s=>s
def gH (rec:Rec):Prop:= ∀t r,rec t=some r→cH (Fv t) (ke r)
def ia (O:aL):Prop:= ∀f args s v s',O f args s=some (v,s')→cH s s'
theorem cH.wm {s s':St} (h:cH { s with wm:=s.n } s'):cH s { s' with wm:=min s.wm s'.wm } :=
 ⟨h.n,Nat.min_le_left _ _,fun b hb=>(h.keep b hb).imp id fun x=>⟨trivial,by have:=x.2;simp;omega⟩⟩
theorem cH.of {L:Nat→Prop} {s s':St} (h:aV L s s'):cH s s':=h.mono fun _ _=>trivial
theorem AA {fr fr':Fr} {d:Option Nat} {v:Value} {s:St} (h:put fr d v s=some fr'):fr'.s=s:=by
 unfold put at h
 split at h
 ·simp at h;subst h;rfl
 ·split at h
  ·simp at h;subst h;rfl
  ·cases h
theorem iu (s:St) (l:Nat) (r:pQ):cH s (cM s l r):=aV.set s l _ trivial
theorem sa: ∀ {ms:List Nat} {s s':St},shut ms s=some s'→cH s s'
 | [],s,s',h=>by simp [shut] at h;subst h;exact aV.refl _ _
 |b::ms,s,s',h=>by
  simp only [shut] at h
  split at h
  ·exact (aV.set s b _ trivial).trans (sa h)
  ·cases h
variable {rec:Rec} {T:Types} {G:Tr Func} {O:aL}
theorem vg (eR:gH rec) {ops:Array Oper} {dr:Bool} {flags:List de} {o:Oper} {l:List Oper} {fr:Fr} {r:ep} (h:dV T rec ops dr flags o l fr=some r):cH fr.s (ke r):=by
 have fin: ∀ {v s} {c:Fr→Bool→Nat→Option ep},cH { fr.s with wm:=fr.s.n } s→(∀fr' b m,c fr' b m=some r→cH fr'.s (ke r))→done fr o v s c=some r→cH fr.s (ke r):=by
  intro v s c hf hc hd
  unfold done at hd
  split at hd
  ·cases hd
  ·rename_i fr' hp
   have:=hc _ _ _ hd
   rw [AA hp] at this
   exact hf.wm.trans this
 unfold dV at h
 split at h
 ·cases h
 ·rename_i v s he
  exact fin (cH.of (fS he)) (fun fr' b m h=>by have:=eR _ _ h;exact this) h
 ·rename_i f args s he
  split at h
  ·rename_i v s' hc
   exact fin ((cH.of (fS he)).trans (eR _ _ hc)) (fun fr' b m h=>by have:=eR _ _ h;exact this) h
  ·cases h
 ·rename_i f args s he
  split at h
  ·rename_i v s' hc
   exact fin ((cH.of (fS he)).trans (eR _ _ hc)) (fun fr' b m h=>by have:=eR _ _ h;exact this) h
  ·cases h
theorem sV (eR:gH rec) {ops:Array Oper} {dr:Bool} {flags:List de} {l:List Oper} {fr:Fr} {r:ep} (h:cB T rec ops dr flags l fr=some r):cH fr.s (ke r):=by
 unfold cB at h
 split at h
 ·split at h
  ·simp at h;subst h;exact aV.refl _ _
  ·split at h
   ·simp at h;subst h;exact aV.refl _ _
   ·cases h
 ·split at h
  ·unfold done at h
   split at h
   ·cases h
   ·rename_i fr' hp
    have:=eR _ _ h
    have e:=AA hp
    simp only [Nat.min_self] at e
    simp only [Fv,e] at this
    exact this
  ·exact vg eR h
theorem lg (eR:gH rec) {ro:Option Nat} {fr:Fr} {f:Operand} {ps:Array Tmp} {a b:Code} {d:Nat} {ms:List Nat} {s:St} {r:ep} (h:b9 rec ro fr f ps a b d ms s=some r):cH s (ke r):=by
 unfold b9 at h
 split at h
 ·split at h
  ·rename_i v s' hc
   have h1:=(aV.new _ s _).trans (eR _ _ hc)
   split at h
   ·split at h
    ·cases h
    ·split at h
     ·simp at h;subst h
      exact h1.trans (iu _ _ _)
     ·exact (h1.trans (iu _ _ _)).trans (eR _ _ h)
   ·cases h
  ·cases h
 ·cases h
theorem su (eR:gH rec) {c:Code} {ro:Option Nat} {fr:Fr} {r:ep} (h:cN rec c ro fr=some r):cH fr.s (ke r):=by
 cases c<;>simp only [cN] at h<;>try (cases h;done)
 case skip=>simp at h;subst h;exact aV.refl _ _
 case label=>simp at h;subst h;exact aV.refl _ _
 case ret=>simp at h;subst h;exact aV.refl _ _
 case exit=>simp at h;subst h;exact aV.refl _ _
 case region=>exact eR _ _ h
 case seq a b=>
  unfold eT at h
  split at h
  ·rename_i fr' h1;exact (eR _ _ h1).trans (eR _ _ h)
  ·exact eR _ _ h
 case cond c a b=>
  unfold eo at h
  split at h
  ·exact eR _ _ h
  ·exact eR _ _ h
  ·cases h
 case block id c=>
  unfold dC at h
  split at h
  ·rename_i j fr' h1
   have:=eR _ _ h1
   split at h<;>(simp at h;subst h;exact this)
  ·exact eR _ _ h
 case loop c=>
  unfold dJ at h
  split at h
  ·rename_i fr' h1;exact (eR _ _ h1).trans (eR _ _ h)
  ·exact eR _ _ h
 case scope c=>exact eR _ _ h
 case rangeFunc f ps a b=>
  unfold fX at h
  split at h
  ·split at h
   ·exact lg eR h
   ·cases h
  ·exact (aV.new _ _ _).trans (lg eR h)
theorem pY {fn:Func} {fr:Fr} {r:ep} (h:leave T fn fr=some r):cH fr.s (ke r):=by
 unfold leave at h
 split at h
 ·cases h
 ·rename_i s hs
  split at h
  ·simp at h;subst h;exact sa hs
  ·cases h
theorem sr (hO:ia O) (eR:gH rec) {f:Nat} {args:List Value} {s:St} {r:ep} (h:cZ O G T rec f args s=some r):cH s (ke r):=by
 unfold cZ at h
 split at h
 ·rename_i v s' ho
  simp at h;subst h;exact hO _ _ _ _ _ ho
 ·split at h
  ·cases h
  ·split at h
   ·cases h
   ·split at h
    ·cases h
    ·split at h
     ·rename_i h1;exact (eR _ _ h1).trans (pY h)
     ·rename_i h1;exact (eR _ _ h1).trans (pY h)
     ·cases h
theorem qp (eR:gH rec) {l:Nat} {args:List Value} {s:St} {r:ep} (h:cu rec l args s=some r):cH s (ke r):=by
 unfold cu at h
 split at h
 ·split at h
  ·cases h
  ·split at h
   ·rename_i fr h1
    refine (eR _ _ h1).trans ?_
    unfold fL at h
    split at h
    ·split at h
     ·split at h
      ·rename_i x fr' h2
       refine (iu _ _ _).trans ((eR _ _ h2).trans ?_)
       unfold endRound at h
       split at h
       ·split at h<;>(simp at h;subst h;exact iu _ _ _)
       ·cases h
      ·cases h
     ·cases h
    ·cases h
   ·cases h
 ·cases h
theorem lV (T:Types) (G:Tr Func) (hO:ia O): ∀n,gH (go O G T n)
 |0=>fun t r h=>by cases h
 |n+1=>fun t r h=>by
  have ih:=lV T G hO n
  have h:AG O G T (go O G T n) t=some r:=h
  cases t with
  |code c ro fr=>exact su ih h
  |run ops dr flags l fr=>exact sV ih h
  |call f args s=>exact sr hO ih h
  |round l args s=>exact qp ih h
end Go.Vm
end
