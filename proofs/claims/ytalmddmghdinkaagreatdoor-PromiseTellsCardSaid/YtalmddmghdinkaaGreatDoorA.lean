/-
  A part: lemmas; conditions: those that each names.
-/
import Derived.RangeFuncLeaves
import Derived.OrdersIn
set_option linter.all false
set_option linter.deprecated false
theorem D{p:Prop}(h:p:=by omega):p:=h
theorem aS{p:Prop}(h:p:=by decide):p:=h
theorem c3{p:Prop}(h:p:=by assumption):p:=h
theorem ib{p:Prop}(h:p:=by with_unfolding_all exact rfl):p:=h
theorem ar{a b:Prop}(x:a)(y:b):a∧b:=⟨x,y⟩
def cg:=@Nat.le_refl
def cU:=@Option.some.injEq
def c4:=@Prod.mk.injEq
def dU:=@Bool.and_eq_true
def dZ:=@Int.toNat_natCast
def eu:=@Nat.ble_eq
def e3:=@decide_eq_false
def fb:=@Int.natAbs_natCast
def fj:=@List.all_eq_true
def gb:=@Nat.le_trans
def gi:=@decide_eq_true
def gy:=@Nat.blt_eq
def gD:=@Nat.zero_add
def gS:=@List.all_cons
def hc:=@List.mem_cons
def hd:=@List.append_nil
def hp:=@List.nil_append
def hR:=@List.mem_of_getElem?
def hZ:=@List.length_append
def h5:=@List.drop_zero
def ir:=@List.getD_eq_getElem?_getD
def iu:=@List.mem_singleton
def jE:=@List.map_cons
def j5:=@List.mem_cons_self
def j6:=@Bool.not_true
def kj:=@Nat.eq_of_beq_eq_true
def kV:=@List.length_take
def lg:=@Bool.not_false
def lG:=@List.mem_cons_of_mem
def l2:=@List.take_of_length_le
def mA:=@List.getElem?_eq_getElem
def mB:=@List.mem_append
def mC:=@Int.natAbs_mul
def nx:=@List.mem_zipIdx_iff_getElem?
def ny:=@Nat.min_eq_left
def nz:=@Int.mul_le_mul_of_nonneg_left
def nA:=@Nat.mul_le_mul
def nX:=@List.getElem?_eq_some_iff
def nY:=@Nat.le_of_lt
def nZ:=@Int.mul_zero
def ox:=@Nat.mul_one
def oy:=@List.not_mem_nil
def oz:=@List.map_nil
def oA:=@Int.mul_comm
def oB:=@List.take_length
def oC:=@List.length_set
def o9:=@Array.getElem?_eq_some_iff
def pa:=@List.mem_toArray
def pb:=@List.drop_eq_nil_of_le
def pL:=@Nat.add_assoc
def pM:=@List.all_nil
def qn:=@List.mem_map
def qV:=@Nat.beq_eq
def qW:=@List.length_cons
def qX:=@Nat.zero_le
def qY:=@List.length_map
def qZ:=@Int.mul_add
def q0:=@Int.add_zero
def q1:=@Rat.intCast_mul
def r0:=@Nat.lt_of_lt_of_le
def r1:=@Bool.or_eq_true
def r2:=@List.length_drop
def sO:=@List.getElem?_of_mem
def sP:=@List.take_zero
def sQ:=@List.cons_append
def sR:=@Nat.div_le_self
def tX:=@List.getElem_mem
def tY:=@List.any_eq_true
def vi:=@List.getElem?_append_left
def vj:=@Bool.false_eq_true
def vk:=@List.drop_drop
def vl:=@List.append_assoc
def vm:=@Bool.false_or
def vn:=@Int.le_refl
def vo:=@List.length_replicate
def vp:=@Int.add_mul
def vq:=@List.length_eq_zero_iff
def wN:=@Nat.succ_mul
def wO:=@Int.natCast_mul
def wP:=@Bool.and_true
def wQ:=@Int.mul_nonneg
def wR:=@Int.mul_assoc
def x5:=@Nat.mod_lt
def x6:=@Nat.mul_le_mul_right
def x7:=@List.cons.injEq
def x8:=@Int.mul_le_mul_of_nonneg_right
def zs:=@Nat.add_zero
def zt:=@Array.length_toList
def zu:=@List.any_eq_false
def zv:=@Int.emod_lt_of_pos
def zw:=@Int.emod_nonneg
def zx:=@Int.neg_mul
def zy:=@Int.natCast_emod
def zz:=@Rat.not_lt
def Bs:=@List.getElem?_take
def Bt:=@List.getElem?_drop
def Bu:=@List.getElem?_map
def Bv:=@List.drop_set_of_lt
def Bw:=@List.getElem?_eq_none
def Bx:=@List.all_append
def Bk:=@List.map_congr_left
def Bl:=@Bool.not_eq_true'
def Bm:=@Bool.or_true
def Bn:=@List.mem_range
def Bo:=@List.getElem?_set
def Bp:=@Int.toNat_of_nonneg
def Bq:=@Nat.zero_mul
def Br:=@Nat.le_of_ble_eq_true
def DW:=@List.getElem?_append_right
def DX:=@List.foldl_cons
def DY:=@Nat.add_comm
def DZ:=@Nat.le_mul_of_pos_right
def D0:=@List.any_cons
def D1:=@Int.natAbs_neg
def D2:=@Rat.lt_irrefl
def D3:=@Nat.mul_pos
def D4:=@of_decide_eq_true
def Hh:=@Array.getD_eq_getD_getElem?
def Hi:=@List.take_take
def Hj:=@List.range'_succ
def Hk:=@List.length_singleton
def Hl:=@List.mem_append_right
def Hm:=@List.mem_append_left
def Hn:=@List.length_pos_iff
def Ho:=@Int.mul_ediv_add_emod
def Hp:=@Nat.pow_le_pow_right
def Hq:=@Int.natCast_nonneg
def Hr:=@List.take_succ
def MW:=@List.reverse_cons
def MX:=@Array.mem_of_getElem?
def MY:=@Option.map_eq_some_iff
def MZ:=@List.drop_of_length_le
def M0:=@List.mem_of_mem_take
def M1:=@List.mem_or_eq_of_mem_set
def M3:=@List.getElem?_replicate
def M4:=@Nat.gcd_zero_right
def M5:=@List.take_set_of_le
def M6:=@List.drop_length_add_append
def M7:=@List.sublist_cons_self
def TL:=@Array.getElem?_setIfInBounds_ne
def TM:=@List.drop_eq_getElem_cons
def TN:=@List.take_length_add_append
def TO:=@Int.natAbs_tdiv_le_natAbs
noncomputable section
namespace Go.ah
open Go
section
inductive aJ(α:Type) where
 |leaf
 |node (l:aJ α) (v:Option α) (r:aJ α)
namespace aJ
variable {α:Type}
noncomputable def get(t:aJ α):Nat->Option α:=
 aJ.rec (motive:=λ_=>Nat->Option α) (λ_=>none) (λ_ v _ pk akS k=>
  match k with
  |0=>v
  |k+1=>match Nat.beq (k % 2) 0 with
   |true=>pk (k / 2)
   |false=>akS (k / 2)) t
theorem yz(l:aJ α)(v:Option α)(r:aJ α)(k:Nat):(node l v r).get k=
  match k with
  |0=>v
  |k+1=>match Nat.beq (k % 2) 0 with
   |true=>l.get (k / 2)
   |false=>r.get (k / 2):=rfl
def left:aJ α->aJ α
 |.leaf=>.leaf
 |.node l _ _=>l
def right:aJ α->aJ α
 |.leaf=>.leaf
 |.node _ _ r=>r
def top:aJ α->Option α
 |.leaf=>none
 |.node _ v _=>v
noncomputable def GR(f:Nat):aJ α->Nat->α->aJ α:=
 Nat.rec (motive:=λ_=>aJ α->Nat->α->aJ α) (λt _ _=>t) (λ_ st t k x=>
  match t with
  |.leaf=>match k with
   |0=>.node .leaf (some x) .leaf
   |k+1=>match Nat.beq (k % 2) 0 with
    |true=>.node (st .leaf (k / 2) x) none .leaf
    |false=>.node .leaf none (st .leaf (k / 2) x)
  |.node l v r=>match k with
   |0=>.node l (some x) r
   |k+1=>match Nat.beq (k % 2) 0 with
    |true=>.node (st l (k / 2) x) v r
    |false=>.node l v (st r (k / 2) x)) f
noncomputable def set(t:aJ α)(k:Nat)(x:α):aJ α:=GR (k+1) t k x
theorem tb(k:Nat):(leaf:aJ α).get k=none:=by cases k<;>rfl
theorem PE(t:aJ α)(k:Nat)(h:Nat.beq (k % 2) 0=true):t.get (k+1)=t.left.get (k / 2):=by
 cases t with
 |leaf=>rw[tb,left,tb]
 |node l v r=>rw[yz];simp only[left,h]
theorem PF(t:aJ α)(k:Nat)(h:Nat.beq (k % 2) 0=false):t.get (k+1)=t.right.get (k / 2):=by
 cases t with
 |leaf=>rw[tb,right,tb]
 |node l v r=>rw[yz];simp only[right,h]
theorem YH(t:aJ α):t.get 0=t.top:=by cases t<;>rfl
theorem arl(f:Nat)(t:aJ α)(k:Nat)(x:α):GR (f+1) t k x=
  match k with
  |0=>.node t.left (some x) t.right
  |k+1=>match Nat.beq (k % 2) 0 with
   |true=>.node (GR f t.left (k / 2) x) t.top t.right
   |false=>.node t.left t.top (GR f t.right (k / 2) x):=by
 cases t with
 |leaf=>cases k with
  |zero=>rfl
  |succ k=>rfl
 |node l v r=>cases k with
  |zero=>rfl
  |succ k=>rfl
theorem akH(x:α):∀(f:Nat) (t:aJ α) (k j:Nat),k<f->(GR f t k x).get j=if j=k then some x else t.get j:=by
 intro f
 induction f with
 |zero=>intro t k j h;omega
 |succ f a3=>
  intro t k j hk;rw[arl];cases k with
  |zero=>
   simp only[];cases j with
   |zero=>simp[yz]
   |succ j=>
    simp only[yz,Nat.succ_ne_zero,if_false];cases h:Nat.beq (j % 2) 0 with
    |true=>simp[PE t j h]
    |false=>simp[PF t j h]
  |succ k=>
   simp only[];cases h:Nat.beq (k % 2) 0 with
   |true=>
    simp only[];cases j with
    |zero=>simp[YH,top]
    |succ j=>
     simp only[yz];cases h':Nat.beq (j % 2) 0 with
     |true=>
      simp only[];rw[a3 _ _ _ D,PE t j h'];have e:(j / 2=k / 2)↔(j+1=k+1):=by
       have J:=kj h;have U:=kj h';omega
      simp[e]
     |false=>
      simp only[];rw[PF t j h'];have ey: ¬(j+1=k+1):=by
       intro e;have:j=k:=D;subst this;rw[h]at h';cases h'
      rw[if_neg ey]
   |false=>
    simp only[];cases j with
    |zero=>simp[YH,top]
    |succ j=>
     simp only[yz];cases h':Nat.beq (j % 2) 0 with
     |false=>
      simp only[];rw[a3 _ _ _ D,PF t j h'];have e:(j / 2=k / 2)↔(j+1=k+1):=by
       have J:k % 2≠0:=λe=>by rw[e]at h;cases h
       have U:j % 2≠0:=λe=>by rw[e]at h';cases h'
       omega
      simp[e]
     |true=>
      simp only[];rw[PE t j h'];have ey: ¬(j+1=k+1):=by
       intro e;have:j=k:=D;subst this;rw[h]at h';cases h'
      rw[if_neg ey]
theorem tc(t:aJ α)(k j:Nat)(x:α):(t.set k x).get j=if j=k then some x else t.get j:=akH x _ t k j (Nat.lt_succ_self k)
theorem jV(t:aJ α)(k:Nat)(x:α):(t.set k x).get k=some x:=by simp[tc]
theorem hj(t:aJ α){k j:Nat}(x:α)(h:j≠k):(t.set k x).get j=t.get j:=by simp[tc,h]
noncomputable def ofList:aJ α->Nat->List α->aJ α
 |t,_,[]=>t
 |t,i,x::xs=>ofList (t.set i x) (i+1) xs
theorem YG(xs:List α):∀(t:aJ α) (i j:Nat),(ofList t i xs).get j=if i<=j∧j<i+xs.length then xs[j - i]? else t.get j:=by
 induction xs with
 |nil=>
  intro t i j;have: ¬(i<=j∧j<i+([]:List α).length):=by simp
  rw[if_neg this];rfl
 |cons x xs a3=>
  intro t i j;simp only[ofList];rw[a3,tc];by_cases J:j=i;subst J;simp;intro h;omega;by_cases U:i+1<=j∧j<i+1+xs.length;have aj:i<=j∧j<i+(x::xs).length:=by simp;omega
  rw[if_pos U,if_pos aj];obtain ⟨d,rfl⟩:∃d,j=i+1+d:=⟨j - (i+1),D⟩;have aC:i+1+d - (i+1)=d:=D;have ba:i+1+d - i=d+1:=D;rw[aC,ba];simp;have aj: ¬(i<=j∧j<i+(x::xs).length):=by simp;omega
  rw[if_neg U,if_neg aj,if_neg J]
end aJ
end
inductive Jn where
 |int (k:IntKind)
 |bool
 |string
 |slice (e:Nat)
 |array (n e:Nat)
 |struct (ew:List (Nat×Nat))
 |pointer (e:Nat)
 |map (k v:Nat)
 |func
 |iface
 |other
structure cb where
 kind:Jn
 size:Nat
 bytes:Nat
 zero:Value
structure yk where
 state:LoopState
 pending:Option Code
 fn:Nat
 e:aJ Value
 bG:Nat
 params:List Nat
 assign:Code
 body:Code
 defers:Nat
inductive hs where
 |cells (cs:List Value) (elem:Nat) (SV own:Bool)
 |map (es:List (Value×Value)) (own:Bool)
 |loop (r:yk)
 |defs
 |dead
structure b9 where
 h:aJ hs
 n:Nat
 ag:Nat
structure Fr where
 e:aJ Value
 bG:Nat
 s:b9
 ms:List Nat
def bl(e:aJ Value):Operand->Value
 |.tmp t=>match e.get t with
  |some v=>v
  |none=>undef
 |.const v=>v
 |.global g=>.pointer (some ⟨g,0,none⟩)
 |.func f=>.func (.func f) #[] #[]
def scalar:Value->Bool
 |.agg _=>false
 |.tuple _=>false
 |_=>true
def cb.isAgg(t:cb):Bool:=
 match t.kind with
 |.struct _=>true
 |.array _ _=>true
 |_=>false
def eJ:Value->List Value
 |.agg cs=>cs.toList
 |v=> [v]
def gp(cs:List Value)(off:Nat)(vs:List Value):List Value:=cs.take off++(vs++cs.drop (off+vs.length))
def o2(s:b9)(b off n:Nat):Option (List Value):=
 match s.h.get b with
 |some (.cells cs _ _ _)=>match Nat.ble (off+n) cs.length with
  |true=>some ((cs.drop off).take n)
  |false=>none
 |_=>none
def wI(s:b9)(b off:Nat)(vs:List Value):Option b9:=
 match s.h.get b with
 |some (.cells cs e bx true)=>match Nat.ble (off+vs.length) cs.length && vs.all scalar with
  |true=>some { s with h:=s.h.set b (.cells (gp cs off vs) e bx true),ag:=min s.ag b }
  |false=>none
 |_=>none
def newObj(s:b9)(o:hs):b9:= { s with h:=s.h.set s.n o,n:=s.n+1 }
def rN(s:b9)(cs:List Value)(e:Nat)(SV:Bool):Value×b9:=(.pointer (some ⟨s.n,0,none⟩),newObj s (.cells cs e SV true))
def loadT(t:cb)(s:b9)(a:Addr):Option Value:=
 match t.isAgg with
 |true=>match o2 s a.block a.off t.size with
  |some l=>some (.agg ⟨l⟩)
  |none=>none
 |false=>match o2 s a.block a.off 1 with
  |some (v::_)=>some v
  |_=>none
def storeT(t:cb)(s:b9)(a:Addr)(v:Value):Option b9:=
 match Nat.beq (eJ v).length t.size with
 |true=>wI s a.block a.off (eJ v)
 |false=>none
def part(t:cb)(cs:List Value)(off:Nat):Option Value:=
 match t.isAgg with
 |true=>match Nat.ble (off+t.size) cs.length with
  |true=>some (.agg ⟨(cs.drop off).take t.size⟩)
  |false=>none
 |false=>match cs.drop off with
  |v::_=>some v
  |[]=>none
def mf(place:Nat->Option (Nat×Nat)):List Value->List (Nat×Value)->Option (List Value)
 |cs,[]=>some cs
 |cs,(i,v)::rest=>
  match place i with
  |none=>none
  |some (off,size)=>match Nat.beq (eJ v).length size && Nat.ble (off+size) cs.length with
   |true=>mf place (gp cs off (eJ v)) rest
   |false=>none
def cC:Nat->List Value->List Value
 |0,_=> []
 |n+1,z=>z++cC n z
def qF(op:BinOp)(k:IntKind)(a b:Int):Option Value:=
 match op with
 |.add=>some (.int k (k.wrap (a+b)))
 |.sub=>some (.int k (k.wrap (a - b)))
 |.mul=>some (.int k (k.wrap (a*b)))
 |.quo=>if b=0 then none else some (.int k (k.wrap (a.tdiv b)))
 |.rem=>if b=0 then none else some (.int k (a.tmod b))
 |.eql=>some (.bool (a == b))
 |.neq=>some (.bool (a != b))
 |.lss=>some (.bool (decide (a<b)))
 |.leq=>some (.bool (decide (a<=b)))
 |.gtr=>some (.bool (decide (a>b)))
 |.geq=>some (.bool (decide (a≥b)))
 |.and=>some (.int k (k.wrap ((BitVec.ofInt k.bits a &&& BitVec.ofInt k.bits b).toNat)))
 |.or=>some (.int k (k.wrap ((BitVec.ofInt k.bits a |||BitVec.ofInt k.bits b).toNat)))
 |.xor=>some (.int k (k.wrap ((BitVec.ofInt k.bits a ^^^ BitVec.ofInt k.bits b).toNat)))
 |_=>none
def Ly(op:BinOp)(k:IntKind)(a b:Int):Option Value:=
 if b<0 then none else
 match op with
 |.shl=>some (.int k (k.wrap (a*2 ^ (min b.toNat k.bits))))
 |.shr=>some (.int k (a.fdiv (2 ^ (min b.toNat k.bits))))
 |_=>none
def SO(op:BinOp)(a b:ByteArray):Option Value:=
 match op with
 |.eql=>some (.bool (a.toList == b.toList))
 |.neq=>some (.bool (!(a.toList == b.toList)))
 |_=>none
def qE:List Value->Option (List Int)
 |[]=>some []
 |.int .i64 a::l=>match qE l with
  |some r=>some (a::r)
  |none=>none
 |_=>none
def Lw:List (Nat×Nat)->Nat->Bool
 |[],_=>true
 |(e,o)::r,i=>Nat.beq e 3 && (Nat.beq o i && Lw r (i+1))
def cb.E0(t:cb):Bool:=match t.kind with
 |.struct ew=>Lw ew 0 && Nat.beq ew.length t.size
 |.array n e=>Nat.beq e 3 && Nat.beq n t.size
 |_=>false
def MO(t:cb)(x y:Option (List Int)):Option Bool:=match x,y with
 |some a,some b=>match t.E0 && (Nat.beq a.length t.size && Nat.beq b.length t.size) with
  |true=>some (decide (a=b))
  |false=>none
 |_,_=>none
def rY(t:cb)(x y:Value):Option Bool:=
  match t.kind,x,y with
  |.bool,.bool a,.bool b=>some (a == b)
  |.pointer _,.pointer none,.pointer b=>some b.isNone
  |.pointer _,.pointer (some _),.pointer none=>some false
  |.slice _,.slice none _ _,.slice b _ _=>some b.isNone
  |.slice _,.slice (some _) _ _,.slice none _ _=>some false
  |.map _ _,.map none,.map b=>some b.isNone
  |.map _ _,.map (some _),.map none=>some false
  |.func,.nilFunc,.nilFunc=>some true
  |.func,.nilFunc,.func _ _ _=>some false
  |.func,.func _ _ _,.nilFunc=>some false
  |_,_,_=>none
def l0(t:cb)(x y:Value):Option Bool:=match x,y with
 |.agg xs,.agg kx=>MO t (qE xs.toList) (qE kx.toList)
 |x,y=>rY t x y
def bin(op:BinOp)(t:Option cb)(x y:Value):Option Value:=
 match x,y with
 |.int k a,.int k' b=>match op with
  |.shl=>Ly .shl k a b
  |.shr=>Ly .shr k a b
  |op=>if k=k' then qF op k a b else none
 |.string a,.string b=>SO op a b
 |x,y=>match op,t with
  |.eql,some t=>match l0 t x y with
   |some b=>some (.bool b)
   |none=>none
  |.neq,some t=>match l0 t x y with
   |some b=>some (.bool (!b))
   |none=>none
  |_,_=>none
def un(op:UnOp)(x:Value):Option Value:=
 match op,x with
 |.neg,.int k n=>some (.int k (k.wrap (0 - n)))
 |.xor,.int k n=>some (.int k (k.wrap ((BitVec.ofInt k.bits (if k.signed then -1 else k.max) ^^^ BitVec.ofInt k.bits n).toNat)))
 |.not,.bool b=>some (.bool (!b))
 |_,_=>none
def qQ:List Value->Option (List UInt8)
 |[]=>some []
 |.int .u8 n::r=>match qQ r with
  |some l=>some (UInt8.ofNat n.toNat::l)
  |none=>none
 |_::_=>none
def ofBytes(l:List UInt8):List Value:=l.map λb=>.int .u8 b.toNat
def bound(x:Option Value)(rK dflt:Nat):Option Nat:=
 match x with
 |none=>some dflt
 |some (.int _ i)=>if 0<=i∧i<=rK then some i.toNat else none
 |some _=>none
def items(te:cb)(s:b9):Value->Option (Nat×List Value)
 |.slice none 0 _=>some (0,[])
 |.slice (some a) n _=>match o2 s a.block a.off (n*te.size) with
  |some l=>some (n,l)
  |none=>none
 |.string st=>match Nat.beq te.size 1 with
  |true=>some (st.size,ofBytes st.data.toList)
  |false=>none
 |_=>none
def ko(te:cb)(e:Nat)(s:b9)(x y:Value):Option (Value×b9):=
 match items te s y with
 |none=>none
 |some (n,l)=>
  match x with
  |.slice none 0 0=>match n with
   |0=>some (x,s)
   |n+1=>match Nat.ble ((n+1)*te.bytes) 140737488355328 && Nat.blt 0 te.bytes && Nat.beq l.length ((n+1)*te.size) && l.all scalar with
    |true=>some (.slice (some ⟨s.n,0,none⟩) (n+1) (n+1),newObj s (.cells l e true true))
    |false=>none
  |.slice (some a) len cap=>match Nat.ble len cap with
   |false=>none
   |true=>match n with
    |0=>some (x,s)
    |n+1=>match Nat.ble (len+(n+1)) cap with
     |true=>match wI s a.block (a.off+len*te.size) l with
      |some s=>some (.slice (some a) (len+(n+1)) cap,s)
      |none=>none
     |false=>match Nat.ble ((len+(n+1))*te.bytes) 140737488355328 && Nat.blt 0 te.bytes && Nat.beq l.length ((n+1)*te.size) && l.all scalar with
      |false=>none
      |true=>match s.h.get a.block with
       |some (.cells cs _ false _)=>match Nat.ble (a.off+len*te.size) cs.length with
        |true=>some (.slice (some ⟨s.n,0,none⟩) (len+(n+1)) (len+(n+1)),newObj s (.cells ((cs.drop a.off).take (len*te.size)++l) e true true))
        |false=>none
       |some (.cells cs aZ true true)=>match Nat.beq aZ e && Nat.beq a.off 0 && Nat.beq (len*te.size) cs.length && Nat.beq cap len with
        |true=>some (.slice (some ⟨s.n,0,none⟩) (len+(n+1)) (len+(n+1)),
          newObj { s with h:=s.h.set a.block .dead,ag:=min s.ag a.block } (.cells (cs++l) e true true))
        |false=>none
       |_=>none
  |_=>none
def qU(te:cb)(e:Nat)(s:b9)(x y:Value):Option (Value×b9):=
 match x,y with
 |.slice none 0 0,.int .i64 n=>if 0<n∧n.toNat*te.bytes<=140737488355328∧0<te.bytes then
   some (.slice (some ⟨s.n,0,none⟩) n.toNat n.toNat,newObj s (.cells (cC n.toNat (eJ te.zero)) e true true))
  else none
 |_,_=>none
def copyV(te:cb)(s:b9)(x y:Value):Option (Value×b9):=
 match x with
 |.slice none 0 _=>match y with
  |.slice none _ _=>some (.int .i64 0,s)
  |.slice (some _) _ _=>some (.int .i64 0,s)
  |.string _=>some (.int .i64 0,s)
  |_=>none
 |.slice (some a) len _=>
  match items te s y with
  |none=>none
  |some (n,l)=>
   let m:=min n len
   match m with
   |0=>some (.int .i64 0,s)
   |m+1=>match Nat.beq l.length (n*te.size) with
    |true=>match wI s a.block a.off (l.take ((m+1)*te.size)) with
     |some s=>some (.int .i64 (m+1:Nat),s)
     |none=>none
    |false=>none
 |_=>none
def mP(gt:Bool):Value->List Value->Option Value
 |.int k a,[]=>some (.int k a)
 |.int k a,.int _ b::r=>mP gt (.int k (if gt then (if b>a then b else a) else (if b<a then b else a))) r
 |_,_=>none
def kr(k:Value):List (Value×Value)->Option (Option Value)
 |[]=>some none
 |(k',v)::r=>
  match k,k' with
  |.int q a,.int q' b=>if q=q' then (if a=b then some (some v) else kr k r) else none
  |_,_=>none
def mQ(k v:Value):List (Value×Value)->List (Value×Value)
 |[]=> [(k,v)]
 |(k',v')::r=>
  match k,k' with
  |.int _ a,.int _ b=>if a=b then (k,v)::r else (k',v')::mQ k v r
  |_,_=>(k',v')::mQ k v r
inductive nE where
 |val (v:Value)
 |call (f:Nat) (args:List Value)
 |round (l:Nat) (args:List Value)
abbrev Types:=aJ cb
def one(o:Option Value)(s:b9):Option (nE×b9):=
 match o with
 |some v=>some (.val v,s)
 |none=>none
def two(o:Option (Value×b9)):Option (nE×b9):=
 match o with
 |some (v,s)=>some (.val v,s)
 |none=>none
def three(o:Option b9):Option (nE×b9):=
 match o with
 |some s=>some (.val undef,s)
 |none=>none
def iR(T:Types)(b:Builtin)(lE:List Nat)(args:List Value)(s:b9):Option (nE×b9):=
 match b,lE,args with
 |.len,[t],[x]=>match T.get t,x with
  |some { kind:=.string, .. },.string st=>some (.val (.int .i64 st.size),s)
  |some { kind:=.array n _, .. },_=>some (.val (.int .i64 n),s)
  |some { kind:=.slice _, .. },.slice _ n _=>some (.val (.int .i64 n),s)
  |some { kind:=.map _ _, .. },.map none=>some (.val (.int .i64 0),s)
  |some { kind:=.map _ _, .. },.map (some r)=>match s.h.get r with
   |some (.map es _)=>some (.val (.int .i64 es.length),s)
   |_=>none
  |_,_=>none
 |.cap,[t],[x]=>match T.get t,x with
  |some { kind:=.slice _, .. },.slice none _ c=>some (.val (.int .i64 c),s)
  |some { kind:=.slice _, .. },.slice (some a) _ c=>match s.h.get a.block with
   |some (.cells _ _ false _)=>some (.val (.int .i64 c),s)
   |_=>none
  |_,_=>none
 |.append,[t,u],[x,y]=>match T.get t,T.get u with
  |some { kind:=.slice e, .. },some { kind:=.slice _, .. } =>match T.get e,y with
   |some te,.slice a n c=>two (ko te e s x (.slice a n c))
   |_,_=>none
  |some { kind:=.slice e, .. },some { kind:=.string, .. } =>match T.get e,y with
   |some te,.string st=>two (ko te e s x (.string st))
   |_,_=>none
  |some { kind:=.slice e, .. },some { kind:=.int _, .. } =>match T.get e with
   |some te=>two (qU te e s x y)
   |none=>none
  |_,_=>none
 |.copy,[t,_],[x,y]=>match T.get t with
  |some { kind:=.slice e, .. } =>match T.get e with
   |some te=>two (copyV te s x y)
   |none=>none
  |_=>none
 |.max,_,x::r=>one (mP true x r) s
 |.min,_,x::r=>one (mP false x r) s
 |_,_,_=>none
def nU(T:Types)(t:Nat)(x:Value)(lo hi dk:Option Value):Option Value:=
 match T.get t with
 |none=>none
 |some ti=>
  match ti.kind,x with
  |.string,.string st=>match dk with
   |some _=>none
   |none=>match bound hi st.size st.size with
    |none=>none
    |some h=>match bound lo h 0 with
     |none=>none
     |some l=>some (.string (st.extract l h))
  |.slice e,.slice a len cap=>match T.get e with
   |none=>none
   |some te=>match bound dk cap cap with
    |none=>none
    |some m=>match bound hi m len with
     |none=>none
     |some h=>match bound lo h 0,Nat.ble h m with
      |some l,true=>match a with
       |none=>some (.slice none (h - l) (m - l))
       |some a=>some (.slice (some ⟨a.block,a.off+l*te.size,none⟩) (h - l) (m - l))
      |_,_=>none
  |.array n e,.pointer (some a)=>match T.get e with
   |none=>none
   |some te=>match bound dk n n with
    |none=>none
    |some m=>match bound hi m n with
     |none=>none
     |some h=>match bound lo h 0,Nat.ble h m with
      |some l,true=>some (.slice (some ⟨a.block,a.off+l*te.size,none⟩) (h - l) (m - l))
      |_,_=>none
  |_,_=>none
def tz(T:Types)(t:Nat)(x c1:Value):Option Value:=
 match T.get t,x,c1 with
 |some { kind:=.slice e, .. },.slice (some a) len _,.int _ i=>match T.get e with
  |some te=>if 0<=i∧i<len then some (.pointer (some ⟨a.block,a.off+i.toNat*te.size,none⟩)) else none
  |none=>none
 |some { kind:=.array len e, .. },.pointer (some a),.int _ i=>match T.get e with
  |some te=>if 0<=i∧i<len then some (.pointer (some ⟨a.block,a.off+i.toNat*te.size,none⟩)) else none
  |none=>none
 |_,_,_=>none
def sv(T:Types)(t:Nat)(x c1:Value):Option Value:=
 match T.get t,x,c1 with
 |some { kind:=.array len e, .. },.agg cs,.int _ i=>match T.get e with
  |some te=>if 0<=i∧i<len then part te cs.toList (i.toNat*te.size) else none
  |none=>none
 |some { kind:=.string, .. },.string st,.int _ i=>if 0<=i then (match st.data.toList.drop i.toNat with
   |b::_=>some (.int .u8 b.toNat)
   |[]=>none) else none
 |_,_,_=>none
def AI(s:b9)(x:Value):Option (List (Value×Value)):=
 match x with
 |.map none=>some []
 |.map (some r)=>match s.h.get r with
  |some (.map es _)=>some es
  |_=>none
 |_=>none
def RR(z:Value)(ok:Bool):Option Value->Value
 |some v=>match ok with
  |true=>.tuple #[v,.bool true]
  |false=>v
 |none=>match ok with
  |true=>.tuple #[z,.bool false]
  |false=>z
def sz(T:Types)(t:Nat)(s:b9)(x k:Value)(ok:Bool):Option Value:=
 match T.get t with
 |some { kind:=.map lU Bb, .. } =>match T.get lU,T.get Bb with
  |some { kind:=.int _, .. },some sM=>match AI s x,k with
   |some es,.int q a=>match kr (.int q a) es with
    |some f=>some (RR sM.zero ok f)
    |none=>none
   |_,_=>none
  |_,_=>none
 |_=>none
def qS(T:Types)(t:Nat)(s:b9)(x k v:Value):Option b9:=
 match T.get t with
 |some { kind:=.map lU _, .. } =>match T.get lU,x,k with
  |some { kind:=.int _, .. },.map (some r),.int _ _=>match s.h.get r with
   |some (.map es true)=>match kr k es with
    |some _=>some { s with h:=s.h.set r (.map (mQ k v es) true),ag:=min s.ag r }
    |none=>none
   |_=>none
  |_,_,_=>none
 |_=>none
def s3(T:Types)(t:Nat)(ps:List (Nat×Value)):Option Value:=
 match T.get t with
 |some { kind:=.struct ew,zero:=z, .. } =>
  match mf (λi=>match ew.drop i with
   |(jU,off)::_=>match T.get jU with
    |some ti=>some (off,ti.size)
    |none=>none
   |[]=>none) (eJ z) ps with
  |some l=>some (.agg ⟨l⟩)
  |none=>none
 |some { kind:=.array _ e,zero:=z, .. } =>match T.get e with
  |some te=>match mf (λi=>some (i*te.size,te.size)) (eJ z) ps with
   |some l=>some (.agg ⟨l⟩)
   |none=>none
  |none=>none
 |_=>none
def qy(T:Types)(t len:Nat)(ps:List (Nat×Value))(s:b9):Option (Value×b9):=
 match T.get t with
 |some { kind:=.slice e, .. } =>match T.get e with
  |some te=>match Nat.ble (len*te.size) 16777216 with
   |true=>match mf (λi=>some (i*te.size,te.size)) (cC len (eJ te.zero)) ps with
    |some l=>some (.slice (some ⟨s.n,0,none⟩) len len,newObj s (.cells l e false true))
    |none=>none
   |false=>none
  |none=>none
 |_=>none
def eV(T:Types)(t:Nat)(len cap:Value)(s:b9):Option (Value×b9):=
 match T.get t,len,cap with
 |some { kind:=.slice e, .. },.int .i64 l,.int .i64 c=>match T.get e with
  |some te=>if 0<=l∧l<=c∧te.bytes*c<=281474976710656∧c<=4611686018427387904 then
    some (.slice (some ⟨s.n,0,none⟩) l.toNat c.toNat,newObj s (.cells (cC c.toNat (eJ te.zero)) e false true))
   else none
  |none=>none
 |_,_,_=>none
def n1(T:Types)(src dst:Nat)(x:Value)(s:b9):Option (Value×b9):=
 match T.get src,T.get dst,x with
 |some { kind:=.int _, .. },some { kind:=.int k, .. },.int _ n=>some (.int k (k.wrap n),s)
 |some { kind:=.string, .. },some { kind:=.string, .. },.string st=>some (.string st,s)
 |some { kind:=.slice e, .. },some { kind:=.string, .. },.slice a len _=>match T.get e with
  |some { kind:=.int .u8, .. } =>match a with
   |none=>some (.string .empty,s)
   |some a=>match o2 s a.block a.off len with
    |some l=>match qQ l with
     |some bs=>some (.string ⟨bs.toArray⟩,s)
     |none=>none
    |none=>none
  |_=>none
 |some { kind:=.string, .. },some { kind:=.slice e, .. },.string st=>match T.get e with
  |some { kind:=.int .u8,size:=z, .. } =>match Nat.beq z 1 with
   |true=>some (.slice (some ⟨s.n,0,none⟩) st.size st.size,newObj s (.cells (ofBytes st.data.toList) e true true))
   |false=>none
  |_=>none
 |_,_,_=>none
def s5(T:Types)(t:Nat)(x:Value)(f:Nat):Option Value:=
 match T.get t,x with
 |some { kind:=.struct ew, .. },.pointer (some a)=>match ew.drop f with
  |(jU,off)::_=>match T.get jU with
   |some ti=>match Nat.blt 0 ti.size with
    |true=>some (.pointer (some ⟨a.block,a.off+off,none⟩))
    |false=>none
   |none=>none
  |[]=>none
 |_,_=>none
def s6(T:Types)(t:Nat)(x:Value)(f:Nat):Option Value:=
 match T.get t,x with
 |some { kind:=.struct ew, .. },.agg cs=>match ew.drop f with
  |(jU,off)::_=>match T.get jU with
   |some ti=>part ti cs.toList off
   |none=>none
  |[]=>none
 |_,_=>none
def ix(T:Types)(c:Call)(ρ:Operand->Value)(s:b9):Option (nE×b9):=
 match c.callee with
 |.builtin b=>iR T b c.argTypes.toList (c.args.toList.map ρ) s
 |.invoke _ _=>none
 |.value f=>match ρ f with
  |.func (.func g) first captured=>some (.call g (first.toList++(c.args.toList.map ρ++captured.toList)),s)
  |.func (.yield l) first _=>some (.round l (first.toList++c.args.toList.map ρ),s)
  |_=>none
def lA(ρ:Operand->Value)(ps:Array (Nat×Operand)):List (Nat×Value):=ps.toList.map λp=>(p.1,ρ p.2)
def evalOp(T:Types)(ρ:Operand->Value)(s:b9)(o:Op):Option (nE×b9):=
 match o with
 |.move x=>some (.val (ρ x),s)
 |.assign x=>some (.val (ρ x),s)
 |.pick c a b=>match ρ c with
  |.bool true=>some (.val (ρ a),s)
  |.bool false=>some (.val (ρ b),s)
  |_=>none
 |.alloc t=>match T.get t with
  |some ti=>two (some (rN s (eJ ti.zero) t false))
  |none=>none
 |.box t x=>two (some (rN s (eJ (ρ x)) t false))
 |.build t ps=>one (s3 T t (lA ρ ps)) s
 |.buildSlice t len ps=>two (qy T t len (lA ρ ps) s)
 |.load t a=>match T.get t,ρ a with
  |some ti,.pointer (some a)=>one (loadT ti s a) s
  |_,_=>none
 |.store t a x=>match T.get t,ρ a with
  |some ti,.pointer (some a)=>three (storeT ti s a (ρ x))
  |_,_=>none
 |.nilCheck x=>match ρ x with
  |.pointer (some a)=>some (.val (.pointer (some a)),s)
  |.func (.func f) a b=>some (.val (.func (.func f) a b),s)
  |.func (.yield l) a b=>some (.val (.func (.yield l) a b),s)
  |_=>none
 |.binOp op t x y _=>one (bin op (T.get t) (ρ x) (ρ y)) s
 |.unOp op _ x=>one (un op (ρ x)) s
 |.convert a b x=>two (n1 T a b (ρ x) s)
 |.makeFunc fn first captured=>match fn with
  |.func f=>some (.val (.func (.func f) ⟨first.toList.map ρ⟩ ⟨captured.toList.map ρ⟩),s)
  |_=>none
 |.makeMap t r=>match T.get t,r with
  |some { kind:=.map _ _, .. },none=>two (some (.map (some s.n),newObj s (.map [] true)))
  |_,_=>none
 |.makeSlice t l c=>two (eV T t (ρ l) (ρ c) s)
 |.slice t x lo hi dk=>match hi,dk with
  |none,some _=>none
  |hi,dk=>one (nU T t (ρ x) (lo.map ρ) (hi.map ρ) (dk.map ρ)) s
 |.fieldAddr t x f=>one (s5 T t (ρ x) f) s
 |.field t x f=>one (s6 T t (ρ x) f) s
 |.indexAddr t x i=>one (tz T t (ρ x) (ρ i)) s
 |.index t x i=>one (sv T t (ρ x) (ρ i)) s
 |.lookup t x i ok=>one (sz T t s (ρ x) (ρ i) ok) s
 |.mapUpdate t m k v=>three (qS T t s (ρ m) (ρ k) (ρ v))
 |.extract t i=>match ρ t with
  |.tuple vs=>match vs.toList.drop i with
   |v::_=>some (.val v,s)
   |[]=>none
  |_=>none
 |.call c=>ix T c ρ s
 |_=>none
abbrev Reach:=Option (List Nat)
def Reach.meets:Reach->Reach->Bool
 |some [],_=>false
 |_,some []=>false
 |none,_=>true
 |_,none=>true
 |some a,some b=>a.any λx=>b.contains x
def g6:Value->List Nat
 |.pointer (some a)=> [a.block]
 |.slice (some a) _ _=> [a.block]
 |.map (some r)=> [r]
 |_=> []
def cp(ρ:Operand->Value):Op->Reach
 |.load _ a=>some (g6 (ρ a))
 |.store _ a _=>some (g6 (ρ a))
 |.lookup _ x _ _=>some (g6 (ρ x))
 |.mapUpdate _ x _ _=>some (g6 (ρ x))
 |.convert _ _ x=>some (g6 (ρ x))
 |.call c=>match c.callee with
  |.builtin _=>some (c.args.toList.flatMap λx=>g6 (ρ x))
  |_=>none
 |_=>some []
def hM(ρ:Operand->Value):Op->Reach
 |.store _ a _=>some (g6 (ρ a))
 |.mapUpdate _ x _ _=>some (g6 (ρ x))
 |.call c=>match c.callee with
  |.builtin _=>match c.args.toList with
   |x::_=>some (g6 (ρ x))
   |[]=>some []
  |_=>none
 |_=>some []
def writes(ρ:Operand->Value)(o:Op)(wrote:Bool):Reach:=
 match wrote with
 |false=>some []
 |true=>hM ρ o
inductive r7 where
 |normal
 |exit (id:Nat)
 |ret
def jQ(ops:Array Oper)(e:aJ Value)(o:Oper):Bool:=
 match o.guard with
 |none=>true
 |some (j,want)=>match (ops[j]?).bind (·.dst) with
  |none=>false
  |some d=>match e.get d with
   |some (.bool b)=>b == want
   |_=>false
def put(fr:Fr)(dst:Option Nat)(v:Value)(s:b9):Option Fr:=
 match dst with
 |none=>some { fr with s:=s }
 |some d=>match Nat.blt d fr.bG with
  |true=>some { fr with e:=fr.e.set d v,s:=s }
  |false=>none
def EY:Nat->List Oper->Bool
 |_,[]=>true
 |i,o::r=>o.after.toList.all (λe=> !(Region.binds .any e) || Nat.blt e.on i) && EY (i+1) r
def looks(ops:Array Oper)(o:Oper):List Nat:=
 (o.op.operands.toList.filterMap λ|.tmp t=>some t|_=>none)++
 (match o.guard with
  |some (g,_)=>((ops[g]?).bind (·.dst)).toList
  |none=> [])
def fixed(vA:List Nat)(i j:Nat):Bool:=Nat.beq i j || (match Nat.blt i j with
 |true=>(vA.getD j 0).testBit i
 |false=>(vA.getD i 0).testBit j)
def Tc(ops:Array Oper)(vA:List Nat)(l:List (Oper×Nat)):Bool:=
 l.all λx=>match x.1.dst with
  |none=>true
  |some d=>l.all λy=>(!((looks ops y.1).contains d) && !(y.1.dst == some d)) || fixed vA x.2 y.2
def AJ(acc:List Nat):List Edge->Nat
 |[]=>0
 |e::r=>match Region.binds .any e with
  |true=>(2 ^ e.on |||acc.getD e.on 0) |||AJ acc r
  |false=>AJ acc r
def qb:List Nat->List Oper->List Nat
 |acc,[]=>acc
 |acc,o::r=>qb (acc++ [AJ acc o.after.toList]) r
structure fM where
 t:Reach
 w:Reach
 lo:Nat
 hi:Nat
def fM.lK(x y:fM):Bool:=x.w.meets y.t || x.w.meets y.w || (match x.w with
 |some l=>l.any λb=>Nat.ble y.lo b && Nat.blt b y.hi
 |none=>Nat.blt y.lo y.hi)
def SI(ops:Array Oper):Bool:=EY 0 ops.toList && Tc ops (qb [] ops.toList) ops.toList.zipIdx
def uz(ops:Array Oper)(flags:List fM):Bool:=
 flags.zipIdx.all λx=>match x.1.w with
  |some []=>true
  |_=>flags.zipIdx.all λy=> !(x.1.lK y.1) || fixed (qb [] ops.toList) x.2 y.2
inductive Task where
 |code (c:Code) (ro:Option Nat) (fr:Fr)
 |run (ops:Array Oper) (aP:Bool) (flags:List fM) (l:List Oper) (fr:Fr)
 |call (f:Nat) (args:List Value) (s:b9)
 |round (l:Nat) (args:List Value) (s:b9)
inductive dG where
 |code (x:r7) (fr:Fr)
 |val (v:Value) (s:b9)
def lB(T:Types)(rs:List ResultVar)(fr:Fr):Option (List Value):=
 match rs with
 |[]=>some []
 |.tmp t::r=>match lB T r fr with
  |some l=>some (bl fr.e (.tmp t)::l)
  |none=>none
 |.cell a t::r=>match T.get t,bl fr.e (.tmp a) with
  |some ti,.pointer (some a)=>match loadT ti fr.s a with
   |some v=>match lB T r fr with
    |some l=>some (v::l)
    |none=>none
   |none=>none
  |_,_=>none
def pI:List Value->Value
 |[v]=>v
 |l=>.tuple ⟨l⟩
def shut:List Nat->b9->Option b9
 |[],s=>some s
 |b::r,s=>match s.h.get b with
  |some .defs=>shut r { s with h:=s.h.set b .dead,ag:=min s.ag b }
  |_=>none
def qP:List Nat->List Value->Nat->aJ Value->Option (aJ Value)
 |[],[],_,e=>some e
 |t::lE,v::vs,bG,e=>match Nat.blt t bG with
  |true=>qP lE vs bG (e.set t v)
  |false=>none
 |_,_,_,_=>none
def kR(s:b9)(l:Nat)(r:yk):b9:= { s with h:=s.h.set l (.loop r),ag:=min s.ag l }
def done(fr:Fr)(o:Oper)(v:Value)(s:b9)(c:Fr->Bool->Nat->Option dG):Option dG:=
 match put fr o.dst v { s with ag:=min fr.s.ag s.ag } with
 |none=>none
 |some fr'=>c fr' (Nat.blt s.ag fr.s.n) s.n
abbrev Rec:=Task->Option dG
abbrev bo:=Nat->List Value->b9->Option (Value×b9)
def lY(rec:Rec)(ro:Option Nat)(fr:Fr)(f:Operand)(ps:Array Tmp)(assign body:Code)(d:Nat)(ms:List Nat)(s:b9):Option dG:=
 match bl fr.e f with
 |.func (.func g) first captured=>
  match rec (.call g (first.toList++(.func (.yield s.n) #[] #[]::captured.toList))
    (newObj s (.loop { state:=.ready,pending:=none,fn:=0,e:=fr.e,bG:=fr.bG,params:=ps.toList,assign:=assign,body:=body,defers:=d }))) with
  |some (.val _ s')=>match s'.h.get s.n with
   |some (.loop r)=>match r.state with
    |.busy=>none
    |_=>match r.pending with
     |none=>some (.code .normal { fr with s:=kR s' s.n { r with state:=.exhausted },ms:=ms })
     |some c=>rec (.code c ro { fr with s:=kR s' s.n { r with state:=.exhausted },ms:=ms })
   |_=>none
  |_=>none
 |_=>none
def o4(rec:Rec)(ro:Option Nat)(fr:Fr)(c:Code):Option dG:=
 match rec (.code c ro fr) with
 |some (.code .normal fr)=>rec (.code (.loop c) ro fr)
 |r=>r
def pG(rec:Rec)(ro:Option Nat)(fr:Fr)(a b:Code):Option dG:=
 match rec (.code a ro fr) with
 |some (.code .normal fr)=>rec (.code b ro fr)
 |r=>r
def qj(rec:Rec)(ro:Option Nat)(fr:Fr)(id:Nat)(c:Code):Option dG:=
 match rec (.code c ro fr) with
 |some (.code (.exit j) fr)=>match Nat.beq j id with
  |true=>some (.code .normal fr)
  |false=>some (.code (.exit j) fr)
 |r=>r
def qk(rec:Rec)(ro:Option Nat)(fr:Fr)(c:Operand)(a b:Code):Option dG:=
 match bl fr.e c with
 |.bool true=>rec (.code a ro fr)
 |.bool false=>rec (.code b ro fr)
 |_=>none
def sJ(rec:Rec)(ro:Option Nat)(fr:Fr)(f:Operand)(ps:Array Tmp)(assign body:Code):Option dG:=
 match ro with
 |some l=>match fr.s.h.get l with
  |some (.loop r)=>lY rec ro fr f ps assign body r.defers fr.ms fr.s
  |_=>none
 |none=>lY rec ro fr f ps assign body fr.s.n (fr.s.n::fr.ms) (newObj fr.s .defs)
def mS(rec:Rec)(c:Code)(ro:Option Nat)(fr:Fr):Option dG:=
 match c with
 |.skip=>some (.code .normal fr)
 |.label _=>some (.code .normal fr)
 |.ret=>some (.code .ret fr)
 |.exit id=>some (.code (.exit id) fr)
 |.goto _=>none
 |.region _ ops aP=>rec (.run ops aP [] ops.toList fr)
 |.seq a b=>pG rec ro fr a b
 |.cond c a b=>qk rec ro fr c a b
 |.block id c=>qj rec ro fr id c
 |.loop c=>o4 rec ro fr c
 |.scope c=>rec (.code c ro fr)
 |.rangeFunc f ps assign body=>sJ rec ro fr f ps assign body
 |.refuse _=>none
def ll(aP:Bool)(x:fM)(l:List fM):List fM:=
 match aP with
 |true=>x::l
 |false=>l
def la(T:Types)(rec:Rec)(ops:Array Oper)(aP:Bool)(flags:List fM)(o:Oper)(l:List Oper)(fr:Fr):Option dG:=
 match evalOp T (bl fr.e) { fr.s with ag:=fr.s.n } o.op with
 |none=>none
 |some (.val v,s)=>done fr o v s (λfr' wr m=>rec (.run ops aP (ll aP ⟨cp (bl fr.e) o.op,writes (bl fr.e) o.op wr,fr.s.n,m⟩ flags) l fr'))
 |some (.call f args,s)=>match rec (.call f args s) with
  |some (.val v s)=>done fr o v s (λfr' wr m=>rec (.run ops aP (ll aP ⟨none,writes (bl fr.e) o.op wr,fr.s.n,m⟩ flags) l fr'))
  |_=>none
 |some (.round r args,s)=>match rec (.round r args s) with
  |some (.val v s)=>done fr o v s (λfr' wr m=>rec (.run ops aP (ll aP ⟨none,writes (bl fr.e) o.op wr,fr.s.n,m⟩ flags) l fr'))
  |_=>none
def j4(T:Types)(rec:Rec)(ops:Array Oper)(aP:Bool)(flags:List fM)(l:List Oper)(fr:Fr):Option dG:=
 match l with
 |[]=>match aP with
  |false=>some (.code .normal fr)
  |true=>match uz ops flags.reverse with
   |true=>some (.code .normal fr)
   |false=>none
 |o::l=>
  match jQ ops fr.e o with
  |false=>done fr o undef fr.s (λfr' _ m=>rec (.run ops aP (ll aP ⟨some [],some [],m,m⟩ flags) l fr'))
  |true=>la T rec ops aP flags o l fr
def leave(T:Types)(fn:Func)(fr:Fr):Option dG:=
 match shut fr.ms fr.s with
 |none=>none
 |some s=>match lB T fn.results.toList { fr with s:=s } with
  |some l=>some (.val (pI l) s)
  |none=>none
def nt(O:bo)(G:aJ Func)(T:Types)(rec:Rec)(f:Nat)(args:List Value)(s:b9):Option dG:=
 match O f args s with
 |some (v,s)=>some (.val v s)
 |none=>match G.get f with
  |none=>none
  |some fn=>match fn.body with
   |none=>none
   |some c=>match Nat.ble args.length fn.ntmps with
    |false=>none
    |true=>match rec (.code c none { e:=aJ.ofList .leaf 0 args,bG:=fn.ntmps,s:=s,ms:=[] }) with
     |some (.code .normal fr)=>leave T fn fr
     |some (.code .ret fr)=>leave T fn fr
     |_=>none
def endRound(l:Nat)(x:r7)(fr:Fr):Option dG:=
 match fr.s.h.get l with
 |some (.loop r)=>match x with
  |.normal=>some (.val (.bool true) (kR fr.s l { r with state:=.ready,pending:=none }))
  |.ret=>some (.val (.bool false) (kR fr.s l { r with state:=.done,pending:=some .ret }))
  |.exit id=>some (.val (.bool false) (kR fr.s l { r with state:=.done,pending:=some (.exit id) }))
 |_=>none
def vb(rec:Rec)(l:Nat)(body:Code)(fr:Fr):Option dG:=
 match fr.s.h.get l with
 |some (.loop r)=>match r.state with
  |.ready=>match rec (.code body (some l) { fr with s:=kR fr.s l { r with state:=.busy } }) with
   |some (.code x fr)=>endRound l x fr
   |_=>none
  |_=>none
 |_=>none
def mT(rec:Rec)(l:Nat)(args:List Value)(s:b9):Option dG:=
 match s.h.get l with
 |some (.loop r)=>match qP r.params args r.bG r.e with
  |none=>none
  |some e=>match rec (.code r.assign (some l) { e:=e,bG:=r.bG,s:=s,ms:=[] }) with
   |some (.code .normal fr)=>vb rec l r.body fr
   |_=>none
 |_=>none
def MB(O:bo)(G:aJ Func)(T:Types)(rec:Rec)(t:Task):Option dG:=
 match t with
 |.code c ro fr=>mS rec c ro fr
 |.run ops aP flags l fr=>j4 T rec ops aP flags l fr
 |.call f args s=>nt O G T rec f args s
 |.round l args s=>mT rec l args s
def go(O:bo)(G:aJ Func)(T:Types):Nat->Task->Option dG
 |0,_=>none
 |n+1,t=>MB O G T (go O G T n) t
structure eD(L:Nat->Prop)(s s':b9):Prop where
 n:s.n<=s'.n
 ag:s'.ag<=s.ag
 k5:∀b,b<s.n->s'.h.get b=s.h.get b∨(L b∧s'.ag<=b)
theorem eD.refl(L:Nat->Prop)(s:b9):eD L s s:=⟨cg _,cg _,λ_ _=>.inl rfl⟩
theorem eD.mono{L cu:Nat->Prop}{s s':b9}(h:eD L s s')(Z:∀b,L b->cu b):eD cu s s':=
 ⟨h.n,h.ag,λb Y=>(h.k5 b Y).imp id λx=>⟨Z b x.1,x.2⟩⟩
theorem eD.trans{L:Nat->Prop}{s s' pF:b9}(h:eD L s s')(h':eD L s' pF):eD L s pF:=by
 refine ⟨gb h.n h'.n,gb h'.ag h.ag,λb Y=>?_⟩;rcases h'.k5 b (r0 Y h.n) with e|⟨J,U⟩
 rcases h.k5 b Y with aZ|⟨J,U⟩
 exact .inl (by rw[e,aZ]);exact .inr ⟨J,gb h'.ag U⟩;exact .inr ⟨J,U⟩
theorem eD.new(L:Nat->Prop)(s:b9)(o:hs):eD L s (newObj s o):=
 ⟨by simp[newObj],cg _,λb Y=>.inl (by simp only[newObj];rw[aJ.hj];omega)⟩
theorem eD.set{L:Nat->Prop}(s:b9)(b:Nat)(o:hs)(gn:L b):eD L s { s with h:=s.h.set b o,ag:=min s.ag b } :=by
 refine ⟨cg _,by simp;omega,λc aa=>?_⟩;by_cases e:c=b;subst e;exact .inr ⟨gn,by simp;omega⟩;exact .inl (by simp only[];rw[aJ.hj _ _ e])
theorem TA{L:Nat->Prop}{s s':b9}{b off:Nat}{l:List Value}(h:wI s b off l=some s')(gn:L b):eD L s s':=by
 unfold wI at h;split at h;split at h;simp at h;subst h;exact eD.set s b _ gn;cases h;cases h
def hD:Reach->Nat->Prop
 |none,_=>True
 |some l,b=>b∈l
theorem WY{L:Nat->Prop}{te:cb}{e:Nat}{s s':b9}{x y v:Value}(h:ko te e s x y=some (v,s'))(gn:∀b,b∈g6 x->L b):eD L s s':=by
 unfold ko at h;split at h;cases h;split at h;split at h;simp at h;obtain ⟨_,rfl⟩:=h;exact eD.refl _ _;split at h;simp at h;obtain ⟨_,rfl⟩:=h;exact eD.new _ _ _;cases h;rename_i a len cap;split at h;cases h;split at h;simp at h;obtain ⟨_,rfl⟩:=h;exact eD.refl _ _;split at h;split at h;rename_i hw;simp at h;obtain ⟨_,rfl⟩:=h;exact TA hw (gn _ (by simp[g6]));cases h;split at h;cases h;split at h;split at h;simp at h;obtain ⟨_,rfl⟩:=h;exact eD.new _ _ _;cases h;split at h;simp at h;obtain ⟨_,rfl⟩:=h;exact (eD.set s a.block .dead (gn _ (by simp[g6]))).trans (eD.new _ _ _);cases h;cases h;cases h
theorem ai1{L:Nat->Prop}{te:cb}{s s':b9}{x y v:Value}(h:copyV te s x y=some (v,s'))(gn:∀b,b∈g6 x->L b):eD L s s':=by
 unfold copyV at h;split at h;split at h<;>first|(simp at h;obtain ⟨_,rfl⟩:=h;exact eD.refl _ _)|cases h
 rename_i a len cap;split at h;cases h;simp only[]at h;split at h;simp at h;obtain ⟨_,rfl⟩:=h;exact eD.refl _ _;split at h;split at h;rename_i hw;simp at h;obtain ⟨_,rfl⟩:=h;exact TA hw (gn _ (by simp[g6]));cases h;cases h;cases h
theorem tL{L:Nat->Prop}{o:Option Value}{s:b9}{r:nE×b9}(h:one o s=some r):eD L s r.2:=by
 cases o with
 |none=>cases h
 |some v=>simp[one]at h;subst h;exact eD.refl _ _
theorem wE{L:Nat->Prop}{o:Option (Value×b9)}{s:b9}{r:nE×b9}(h:two o=some r)(aE:∀v s',o=some (v,s')->eD L s s'):eD L s r.2:=by
 cases o with
 |none=>cases h
 |some x=>obtain ⟨v,s'⟩:=x;simp[two]at h;subst h;exact aE v s' rfl
theorem adN{L:Nat->Prop}{o:Option b9}{s:b9}{r:nE×b9}(h:three o=some r)(aE:∀s',o=some s'->eD L s s'):eD L s r.2:=by
 cases o with
 |none=>cases h
 |some x=>simp[three]at h;subst h;exact aE x rfl
theorem ah0{L:Nat->Prop}{T:Types}{b:Builtin}{lE:List Nat}{args:List Value}{s:b9}{r:nE×b9}(h:iR T b lE args s=some r)(gn:∀x l,args=x::l-> ∀b,b∈g6 x->L b):eD L s r.2:=by
 unfold iR at h;split at h
 ·split at h<;>first
   |(cases h;done)
   |(simp at h;subst h;exact eD.refl _ _)
   |(split at h<;>first|(cases h;done)|(simp at h;subst h;exact eD.refl _ _))
 ·split at h<;>first
   |(cases h;done)
   |(simp at h;subst h;exact eD.refl _ _)
   |(split at h<;>first|(cases h;done)|(simp at h;subst h;exact eD.refl _ _))
 split at h;split at h;exact wE h λv s' ad=>WY ad (gn _ _ rfl);cases h;split at h;exact wE h λv s' ad=>WY ad (gn _ _ rfl);cases h;split at h;refine wE h λv s' ad=>?_;unfold qU at ad;split at ad;split at ad;simp at ad;obtain ⟨_,rfl⟩:=ad;exact eD.new _ _ _;cases ad;cases ad;cases h;cases h;split at h;split at h;exact wE h λv s' ad=>ai1 ad (gn _ _ rfl);cases h;cases h;exact tL h;exact tL h;cases h
theorem Ci{T:Types}{ρ:Operand->Value}{s:b9}{o:Op}{r:nE×b9}(h:evalOp T ρ s o=some r):eD (hD (hM ρ o)) s r.2:=by
 cases o<;>simp only[evalOp]at h<;>try (cases h;done)
 case move x=>simp at h;subst h;exact eD.refl _ _
 case assign x=>simp at h;subst h;exact eD.refl _ _
 case pick c a b=>
  split at h<;>first|(cases h;done)|(simp at h;subst h;exact eD.refl _ _)
 case alloc t=>
  split at h;exact wE h λv s' ad=>by simp[rN]at ad;obtain ⟨_,rfl⟩:=ad;exact eD.new _ _ _
  cases h
 case box t x=>exact wE h λv s' ad=>by simp[rN]at ad;obtain ⟨_,rfl⟩:=ad;exact eD.new _ _ _
 case build t ps=>exact tL h
 case buildSlice t len ps=>
  refine wE h λv s' ad=>?_;unfold qy at ad;split at ad;split at ad;split at ad;split at ad;simp at ad;obtain ⟨_,rfl⟩:=ad;exact eD.new _ _ _;cases ad;cases ad;cases ad;cases ad
 case load t a=>
  split at h;exact tL h;cases h
 case store t a x=>
  split at h;rename_i ti p aO al;refine adN h λs' ae=>?_;unfold storeT at ae;split at ae;exact TA ae (by simp[hM,hD,al,g6]);cases ae;cases h
 case nilCheck x=>
  split at h<;>first|(cases h;done)|(simp at h;subst h;exact eD.refl _ _)
 case binOp=>exact tL h
 case unOp=>exact tL h
 case convert a b x=>
  refine wE h λv s' ad=>?_;unfold n1 at ad;split at ad;simp at ad;obtain ⟨_,rfl⟩:=ad;exact eD.refl _ _;simp at ad;obtain ⟨_,rfl⟩:=ad;exact eD.refl _ _;split at ad;split at ad;simp at ad;obtain ⟨_,rfl⟩:=ad;exact eD.refl _ _;split at ad;split at ad;simp at ad;obtain ⟨_,rfl⟩:=ad;exact eD.refl _ _;cases ad;cases ad;cases ad;split at ad;split at ad;simp at ad;obtain ⟨_,rfl⟩:=ad;exact eD.new _ _ _;cases ad;cases ad;cases ad
 case makeFunc fn a b=>
  split at h;simp at h;subst h;exact eD.refl _ _;cases h
 case makeMap t r=>
  split at h;exact wE h λv s' ad=>by simp at ad;obtain ⟨_,rfl⟩:=ad;exact eD.new _ _ _
  cases h
 case makeSlice t l c=>
  refine wE h λv s' ad=>?_;unfold eV at ad;split at ad;split at ad;split at ad;simp at ad;obtain ⟨_,rfl⟩:=ad;exact eD.new _ _ _;cases ad;cases ad;cases ad
 case slice t x lo hi dk=>
  split at h;cases h;exact tL h
 case fieldAddr=>exact tL h
 case field=>exact tL h
 case indexAddr=>exact tL h
 case index=>exact tL h
 case lookup=>exact tL h
 case mapUpdate t m k v=>
  refine adN h λs' ae=>?_;unfold qS at ae;split at ae;split at ae;rename_i r _ _ _ hm;split at ae;split at ae;simp at ae;subst ae;refine eD.set s _ _ ?_;simp only[hM,hD];rename_i pq _ _ _ _ _ _;first
   |(rw[pq];simp[g6])
   |simp_all [g6]
  cases ae;cases ae;cases ae;cases ae
 case extract t i=>
  split at h;split at h;simp at h;subst h;exact eD.refl _ _;cases h;cases h
 case call c=>
  unfold ix at h;obtain ⟨callee,args,q8⟩:=c;cases callee with
  |invoke a b=>simp at h
  |builtin b=>
   simp only[]at h;refine ah0 h λx l hx b Y=>?_;simp only[hM,hD];cases mh:args.toList with
   |nil=>simp[mh]at hx
   |cons y kx=>
    simp[mh]at hx;rw[<-hx.1]at Y;exact Y
  |value f=>
   simp only[]at h;split at h;simp at h;subst h;exact eD.refl _ _;simp at h;subst h;exact eD.refl _ _;cases h
section
abbrev iQ:=eD λ_=>True
def adL:Task->b9
 |.code _ _ fr=>fr.s
 |.run _ _ _ _ fr=>fr.s
 |.call _ _ s=>s
 |.round _ _ s=>s
def sI:dG->b9
 |.code _ fr=>fr.s
 |.val _ s=>s
def w1(rec:Rec):Prop:= ∀t r,rec t=some r->iQ (adL t) (sI r)
def zE(O:bo):Prop:= ∀f args s v s',O f args s=some (v,s')->iQ s s'
theorem iQ.ag{s s':b9}(h:iQ { s with ag:=s.n } s'):iQ s { s' with ag:=min s.ag s'.ag } :=
 ⟨h.n,Nat.min_le_left _ _,λb Y=>(h.k5 b Y).imp id λx=>⟨trivial,by have:=x.2;simp;omega⟩⟩
theorem iQ.of{L:Nat->Prop}{s s':b9}(h:eD L s s'):iQ s s':=h.mono λ_ _=>trivial
theorem Mb{fr fr':Fr}{d:Option Nat}{v:Value}{s:b9}(h:put fr d v s=some fr'):fr'.s=s:=by
 unfold put at h;split at h;simp at h;subst h;rfl;split at h;simp at h;subst h;rfl;cases h
theorem Mr(s:b9)(l:Nat)(r:yk):iQ s (kR s l r):=eD.set s l _ trivial
theorem adu:∀ {ms:List Nat} {s s':b9},shut ms s=some s'->iQ s s'
 |[],s,s',h=>by simp[shut]at h;subst h;exact eD.refl _ _
 |b::ms,s,s',h=>by
  simp only[shut]at h;split at h;exact (eD.set s b _ trivial).trans (adu h);cases h
variable {rec:Rec}{T:Types}{G:aJ Func}{O:bo}
theorem arQ(hC:w1 rec){ops:Array Oper}{aP:Bool}{flags:List fM}{o:Oper}{l:List Oper}{fr:Fr}{r:dG}(h:la T rec ops aP flags o l fr=some r):iQ fr.s (sI r):=by
 have fin:∀ {v s} {c:Fr->Bool->Nat->Option dG},iQ { fr.s with ag:=fr.s.n } s->(∀fr' b m,c fr' b m=some r->iQ fr'.s (sI r))->done fr o v s c=some r->iQ fr.s (sI r):=by
  intro v s c aM aa ai;unfold done at ai;split at ai;cases ai;rename_i fr' al;have:=aa _ _ _ ai;rw[Mb al]at this;exact aM.ag.trans this
 unfold la at h;split at h;cases h;rename_i v s he;exact fin (iQ.of (Ci he)) (λfr' b m h=>by have:=hC _ _ h;exact this) h;rename_i f args s he;split at h;rename_i v s' aa;exact fin ((iQ.of (Ci he)).trans (hC _ _ aa)) (λfr' b m h=>by have:=hC _ _ h;exact this) h;cases h;rename_i f args s he;split at h;rename_i v s' aa;exact fin ((iQ.of (Ci he)).trans (hC _ _ aa)) (λfr' b m h=>by have:=hC _ _ h;exact this) h;cases h
theorem arW(hC:w1 rec){ops:Array Oper}{aP:Bool}{flags:List fM}{l:List Oper}{fr:Fr}{r:dG}(h:j4 T rec ops aP flags l fr=some r):iQ fr.s (sI r):=by
 unfold j4 at h;split at h
 ·split at h;simp at h;subst h;exact eD.refl _ _;split at h;simp at h;subst h;exact eD.refl _ _;cases h
 ·split at h
  ·unfold done at h;split at h;cases h;rename_i fr' al;have:=hC _ _ h;have e:=Mb al;simp only[Nat.min_self]at e;simp only[adL,e]at this;exact this
  exact arQ hC h
theorem adJ(hC:w1 rec){ro:Option Nat}{fr:Fr}{f:Operand}{ps:Array Tmp}{a b:Code}{d:Nat}{ms:List Nat}{s:b9}{r:dG}(h:lY rec ro fr f ps a b d ms s=some r):iQ s (sI r):=by
 unfold lY at h;split at h;split at h;rename_i v s' aa;have J:=(eD.new _ s _).trans (hC _ _ aa);split at h;split at h;cases h;split at h;simp at h;subst h;exact J.trans (Mr _ _ _);exact (J.trans (Mr _ _ _)).trans (hC _ _ h);cases h;cases h;cases h
theorem arO(hC:w1 rec){c:Code}{ro:Option Nat}{fr:Fr}{r:dG}(h:mS rec c ro fr=some r):iQ fr.s (sI r):=by
 cases c<;>simp only[mS]at h<;>try (cases h;done)
 case skip=>simp at h;subst h;exact eD.refl _ _
 case label=>simp at h;subst h;exact eD.refl _ _
 case ret=>simp at h;subst h;exact eD.refl _ _
 case exit=>simp at h;subst h;exact eD.refl _ _
 case region=>exact hC _ _ h
 case seq a b=>
  unfold pG at h;split at h;rename_i fr' J;exact (hC _ _ J).trans (hC _ _ h);exact hC _ _ h
 case cond c a b=>
  unfold qk at h;split at h;exact hC _ _ h;exact hC _ _ h;cases h
 case block id c=>
  unfold qj at h;split at h;rename_i j fr' J;have:=hC _ _ J;split at h<;>(simp at h;subst h;exact this);exact hC _ _ h
 case loop c=>
  unfold o4 at h;split at h;rename_i fr' J;exact (hC _ _ J).trans (hC _ _ h);exact hC _ _ h
 case scope c=>exact hC _ _ h
 case rangeFunc f ps a b=>
  unfold sJ at h;split at h;split at h;exact adJ hC h;cases h;exact (eD.new _ _ _).trans (adJ hC h)
theorem abp{fn:Func}{fr:Fr}{r:dG}(h:leave T fn fr=some r):iQ fr.s (sI r):=by
 unfold leave at h;split at h;cases h;rename_i s ae;split at h;simp at h;subst h;exact adu ae;cases h
theorem arN(fv:zE O)(hC:w1 rec){f:Nat}{args:List Value}{s:b9}{r:dG}(h:nt O G T rec f args s=some r):iQ s (sI r):=by
 unfold nt at h;split at h;rename_i v s' aE;simp at h;subst h;exact fv _ _ _ _ _ aE;split at h;cases h;split at h;cases h;split at h;cases h;split at h;rename_i J;exact (hC _ _ J).trans (abp h);rename_i J;exact (hC _ _ J).trans (abp h);cases h
theorem arU(hC:w1 rec){l:Nat}{args:List Value}{s:b9}{r:dG}(h:mT rec l args s=some r):iQ s (sI r):=by
 unfold mT at h;split at h;split at h;cases h;split at h;rename_i fr J;refine (hC _ _ J).trans ?_;unfold vb at h;split at h;split at h;split at h;rename_i x fr' U;refine (Mr _ _ _).trans ((hC _ _ U).trans ?_);unfold endRound at h;split at h;split at h<;>(simp at h;subst h;exact Mr _ _ _);cases h;cases h;cases h;cases h;cases h;cases h
theorem Fg(T:Types)(G:aJ Func)(fv:zE O):∀n,w1 (go O G T n)
 |0=>λt r h=>by cases h
 |n+1=>λt r h=>by
  have a3:=Fg T G fv n;have h:MB O G T (go O G T n) t=some r:=h;cases t with
  |code c ro fr=>exact arO a3 h
  |run ops aP flags l fr=>exact arW a3 h
  |call f args s=>exact arN fv a3 h
  |round l args s=>exact arU a3 h
end
end Go.ah
