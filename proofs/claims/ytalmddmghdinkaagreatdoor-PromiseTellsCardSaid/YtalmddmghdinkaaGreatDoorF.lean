/-
  A part: lemmas; conditions: those that each names.
-/
import Derived.Test.YtalmddmghdinkaaGreatDoorE
set_option linter.all false
set_option linter.deprecated false
noncomputable section
namespace Go.ah.X
open Go
inductive V where
 |bad
 |bool (b:Bool)
 |int (k:IntKind) (n:Int)
 |str (s:ByteArray)
 |pB
 |AN
 |sE
 |sC
 |af
 |ptr (b o:Nat)
 |bx (b o l c z:Nat)
 |fs (cs:List V) (l:Nat)
 |fu (cs:List V)
 |map (b:Nat)
 |fn (f:Nat) (a b:List V)
 |yield (l:Nat)
 |agg (cs:List V)
 |da (vs:List V)
def lV:Value->V
 |.bool b=>.bool b
 |.int k n=>.int k n
 |.string s=>.str s
 |.nilFunc=>.pB
 |.nilIface=>.AN
 |.pointer none=>.sE
 |.map none=>.sC
 |.slice none 0 0=>.af
 |.func (.func f) ⟨[]⟩ ⟨[]⟩=>.fn f [] []
 |_=>.bad
def np:Value->V
 |.agg ⟨l⟩=>.agg (l.map lV)
 |v=>lV v
structure Eh where
 state:LoopState
 pending:Option Code
 e:aJ V
 bG:Nat
 params:List Nat
 assign:Code
 body:Code
 defers:Nat
inductive Obj where
 |cells (cs:List V) (elem:Nat) (SV own:Bool)
 |map (es:List (V×V)) (own:Bool)
 |loop (r:Eh)
 |defs
 |dead
structure S where
 h:aJ Obj
 n:Nat
 ag:Nat
structure F where
 e:aJ V
 bG:Nat
 s:S
 ms:List Nat
def bl(e:aJ V):Operand->V
 |.tmp t=>match e.get t with
  |some v=>v
  |none=>.bad
 |.const v=>np v
 |.global g=>.ptr g 0
 |.func f=>.fn f [] []
def bL:V->Bool
 |.agg _=>false
 |.da _=>false
 |.bad=>false
 |_=>true
def eJ:V->List V
 |.agg cs=>cs
 |v=> [v]
def gp(cs:List V)(off:Nat)(vs:List V):List V:=cs.take off++(vs++cs.drop (off+vs.length))
def qh(s:S)(b off n:Nat):Option (List V):=
 match s.h.get b with
 |some (.cells cs _ _ _)=>match Nat.ble (off+n) cs.length with
  |true=>some ((cs.drop off).take n)
  |false=>none
 |_=>none
def ow(s:S)(b off:Nat)(vs:List V):Option S:=
 match s.h.get b with
 |some (.cells cs e bx true)=>match Nat.ble (off+vs.length) cs.length && vs.all bL with
  |true=>some { s with h:=s.h.set b (.cells (gp cs off vs) e bx true),ag:=min s.ag b }
  |false=>none
 |_=>none
def newObj(s:S)(o:Obj):S:= { s with h:=s.h.set s.n o,n:=s.n+1 }
def takeN(n:Nat)(cs:List V):Option (List V):=
 match Nat.ble n cs.length with
 |true=>some (cs.take n)
 |false=>none
def rd(s:S)(p:V)(n:Nat):Option (List V):=
 match p with
 |.ptr b o=>qh s b o n
 |.fu cs=>takeN n cs
 |_=>none
def loadT(t:cb)(s:S)(p:V):Option V:=
 match t.isAgg with
 |true=>match rd s p t.size with
  |some l=>some (.agg l)
  |none=>none
 |false=>match rd s p 1 with
  |some (v::_)=>some v
  |_=>none
def storeT(t:cb)(s:S)(p v:V):Option S:=
 match p,v with
 |_,.bad=>none
 |.ptr b o,v=>match Nat.beq (eJ v).length t.size with
  |true=>ow s b o (eJ v)
  |false=>none
 |_,_=>none
def part(t:cb)(cs:List V)(off:Nat):Option V:=
 match t.isAgg with
 |true=>match Nat.ble (off+t.size) cs.length with
  |true=>some (.agg ((cs.drop off).take t.size))
  |false=>none
 |false=>match cs.drop off with
  |v::_=>some v
  |[]=>none
def mf(place:Nat->Option (Nat×Nat)):List V->List (Nat×V)->Option (List V)
 |cs,[]=>some cs
 |cs,(i,v)::rest=>
  match place i with
  |none=>none
  |some (off,size)=>match v with
   |.bad=>none
   |v=>match Nat.beq (eJ v).length size && Nat.ble (off+size) cs.length with
    |true=>mf place (gp cs off (eJ v)) rest
    |false=>none
def cC:Nat->List V->List V
 |0,_=> []
 |n+1,z=>z++cC n z
def zero(t:cb):List V:=(ah.eJ t.zero).map lV
def lift(o:Option Value):Option V:=
 match o with
 |some v=>some (np v)
 |none=>none
def qE:List V->Option (List Int)
 |[]=>some []
 |.int .i64 a::l=>match qE l with
  |some r=>some (a::r)
  |none=>none
 |_=>none
def rY(t:cb)(x y:V):Option Bool:=
 match t.kind,x,y with
 |.bool,.bool a,.bool b=>some (a == b)
 |.pointer _,.sE,.sE=>some true
 |.pointer _,.sE,.ptr _ _=>some false
 |.pointer _,.sE,.fu _=>some false
 |.pointer _,.ptr _ _,.sE=>some false
 |.pointer _,.fu _,.sE=>some false
 |.slice _,.af,.af=>some true
 |.slice _,.af,.bx _ _ _ _ _=>some false
 |.slice _,.af,.fs _ _=>some false
 |.slice _,.bx _ _ _ _ _,.af=>some false
 |.slice _,.fs _ _,.af=>some false
 |.map _ _,.sC,.sC=>some true
 |.map _ _,.sC,.map _=>some false
 |.map _ _,.map _,.sC=>some false
 |.func,.pB,.pB=>some true
 |.func,.pB,.fn _ _ _=>some false
 |.func,.fn _ _ _,.pB=>some false
 |.func,.pB,.yield _=>some false
 |.func,.yield _,.pB=>some false
 |_,_,_=>none
def l0(t:cb)(x y:V):Option Bool:=match x,y with
 |.agg xs,.agg kx=>MO t (qE xs) (qE kx)
 |x,y=>rY t x y
def bin(op:BinOp)(t:Option cb)(x y:V):Option V:=
 match x,y with
 |.int k a,.int k' b=>lift (ah.bin op none (.int k a) (.int k' b))
 |.str a,.str b=>lift (SO op a b)
 |x,y=>match op,t with
  |.eql,some t=>match l0 t x y with
   |some b=>some (.bool b)
   |none=>none
  |.neq,some t=>match l0 t x y with
   |some b=>some (.bool (!b))
   |none=>none
  |_,_=>none
def un(op:UnOp)(x:V):Option V:=
 match x with
 |.int k n=>lift (ah.un op (.int k n))
 |.bool b=>lift (ah.un op (.bool b))
 |_=>none
def qQ:List V->Option (List UInt8)
 |[]=>some []
 |.int .u8 n::r=>match qQ r with
  |some l=>some (UInt8.ofNat n.toNat::l)
  |none=>none
 |_::_=>none
def ofBytes(l:List UInt8):List V:=l.map λb=>.int .u8 b.toNat
def bound(x:Option V)(rK dflt:Nat):Option Nat:=
 match x with
 |none=>some dflt
 |some (.int _ i)=>if 0<=i∧i<=rK then some i.toNat else none
 |some _=>none
def items(te:cb)(s:S):V->Option (Nat×List V)
 |.af=>some (0,[])
 |.bx b o n _ _=>match qh s b o (n*te.size) with
  |some l=>some (n,l)
  |none=>none
 |.fs cs n=>match takeN (n*te.size) cs with
  |some l=>some (n,l)
  |none=>none
 |.str st=>match Nat.beq te.size 1 with
  |true=>some (st.size,ofBytes st.data.toList)
  |false=>none
 |_=>none
def fresh(te:cb)(e n len:Nat)(l pre:List V)(s:S):Option (V×S):=
 match Nat.ble ((len+n)*te.bytes) 140737488355328 && Nat.blt 0 te.bytes && Nat.beq l.length (n*te.size) && l.all bL with
 |true=>some (.bx s.n 0 (len+n) (len+n) te.size,newObj s (.cells (pre++l) e true true))
 |false=>none
def ko(te:cb)(e:Nat)(s:S)(x y:V):Option (V×S):=
 match items te s y with
 |none=>none
 |some (n,l)=>
  match x with
  |.af=>match n with
   |0=>some (x,s)
   |n+1=>fresh te e (n+1) 0 l [] s
  |.fs cs len=>match n with
   |0=>some (x,s)
   |_=>none
  |.bx b o len cap z=>match Nat.ble len cap with
   |false=>none
   |true=>match n with
    |0=>some (x,s)
    |n+1=>match Nat.ble (len+(n+1)) cap with
     |true=>match ow s b (o+len*te.size) l with
      |some s=>some (.bx b o (len+(n+1)) cap z,s)
      |none=>none
     |false=>match s.h.get b with
       |some (.cells cs _ false _)=>match Nat.ble (o+len*te.size) cs.length with
        |true=>fresh te e (n+1) len l ((cs.drop o).take (len*te.size)) s
        |false=>none
       |some (.cells cs aZ true true)=>match Nat.beq aZ e && Nat.beq o 0 && Nat.beq (len*te.size) cs.length && Nat.beq cap len with
        |true=>match fresh te e (n+1) len l cs { s with h:=s.h.set b .dead,ag:=min s.ag b } with
         |some r=>some r
         |none=>none
        |false=>none
       |_=>none
  |_=>none
def qU(te:cb)(e:Nat)(s:S)(x y:V):Option (V×S):=
 match x,y with
 |.af,.int .i64 n=>if 0<n∧n.toNat*te.bytes<=140737488355328∧0<te.bytes then
   some (.bx s.n 0 n.toNat n.toNat te.size,newObj s (.cells (cC n.toNat (zero te)) e true true))
  else none
 |_,_=>none
def copyV(te:cb)(s:S)(x y:V):Option (V×S):=
 match x with
 |.af=>match y with
  |.af=>some (.int .i64 0,s)
  |.bx _ _ _ _ _=>some (.int .i64 0,s)
  |.fs _ _=>some (.int .i64 0,s)
  |.str _=>some (.int .i64 0,s)
  |_=>none
 |.bx b o len _ _=>
  match items te s y with
  |none=>none
  |some (n,l)=>
   match min n len with
   |0=>some (.int .i64 0,s)
   |m+1=>match Nat.beq l.length (n*te.size) with
    |true=>match ow s b o (l.take ((m+1)*te.size)) with
     |some s=>some (.int .i64 (m+1:Nat),s)
     |none=>none
    |false=>none
 |_=>none
def mP(gt:Bool):V->List V->Option V
 |.int k a,[]=>some (.int k a)
 |.int k a,.int _ b::r=>mP gt (.int k (if gt then (if b>a then b else a) else (if b<a then b else a))) r
 |_,_=>none
def kr(k:V):List (V×V)->Option (Option V)
 |[]=>some none
 |(k',v)::r=>
  match k,k' with
  |.int q a,.int q' b=>if q=q' then (if a=b then some (some v) else kr k r) else none
  |_,_=>none
def mQ(k v:V):List (V×V)->List (V×V)
 |[]=> [(k,v)]
 |(k',v')::r=>
  match k,k' with
  |.int _ a,.int _ b=>if a=b then (k,v)::r else (k',v')::mQ k v r
  |_,_=>(k',v')::mQ k v r
inductive jr where
 |val (v:V)
 |call (f:Nat) (args:List V)
 |round (l:Nat) (args:List V)
def one(o:Option V)(s:S):Option (jr×S):=
 match o with
 |some v=>some (.val v,s)
 |none=>none
def two(o:Option (V×S)):Option (jr×S):=
 match o with
 |some (v,s)=>some (.val v,s)
 |none=>none
def three(o:Option S):Option (jr×S):=
 match o with
 |some s=>some (.val .bad,s)
 |none=>none
def iR(T:Types)(b:Builtin)(lE:List Nat)(args:List V)(s:S):Option (jr×S):=
 match b,lE,args with
 |.len,[t],[x]=>match T.get t,x with
  |some { kind:=.string, .. },.str st=>some (.val (.int .i64 st.size),s)
  |some { kind:=.array n _, .. },_=>some (.val (.int .i64 n),s)
  |some { kind:=.slice _, .. },.af=>some (.val (.int .i64 0),s)
  |some { kind:=.slice _, .. },.bx _ _ n _ _=>some (.val (.int .i64 n),s)
  |some { kind:=.slice _, .. },.fs _ n=>some (.val (.int .i64 n),s)
  |some { kind:=.map _ _, .. },.sC=>some (.val (.int .i64 0),s)
  |some { kind:=.map _ _, .. },.map r=>match s.h.get r with
   |some (.map es _)=>some (.val (.int .i64 es.length),s)
   |_=>none
  |_,_=>none
 |.cap,[t],[x]=>match T.get t,x with
  |some { kind:=.slice _, .. },.af=>some (.val (.int .i64 0),s)
  |some { kind:=.slice _, .. },.bx b _ _ c _=>match s.h.get b with
   |some (.cells _ _ false _)=>some (.val (.int .i64 c),s)
   |_=>none
  |_,_=>none
 |.append,[t,u],[x,y]=>match T.get t,T.get u with
  |some { kind:=.slice e, .. },some { kind:=.slice _, .. } =>match T.get e,y with
   |some _,.str _=>none
   |some te,y=>two (ko te e s x y)
   |_,_=>none
  |some { kind:=.slice e, .. },some { kind:=.string, .. } =>match T.get e,y with
   |some te,.str st=>two (ko te e s x (.str st))
   |_,_=>none
  |some { kind:=.slice e, .. },some { kind:=.int _, .. } =>match T.get e with
   |some te=>two (qU te e s x y)
   |none=>none
  |_,_=>none
 |.copy,[t,_],[x,y]=>match T.get t with
  |some { kind:=.slice e, .. } =>match T.get e with
   |some te=>two (copyV te s x y)
   |none=>none
  |_=>none
 |.max,_,x::r=>one (mP true x r) s
 |.min,_,x::r=>one (mP false x r) s
 |_,_,_=>none
def wB(z len:Nat)(cs:List V)(lo hi dk:Option V):Option V:=
 match bound dk len len with
 |none=>none
 |some m=>match bound hi m len with
  |none=>none
  |some h=>match bound lo h 0,Nat.ble h m && Nat.ble (h*z) cs.length with
   |some l,true=>some (.fs ((cs.take (h*z)).drop (l*z)) (h - l))
   |_,_=>none
def nU(T:Types)(t:Nat)(x:V)(lo hi dk:Option V):Option V:=
 match T.get t with
 |none=>none
 |some ti=>
  match ti.kind,x with
  |.string,.str st=>match dk with
   |some _=>none
   |none=>match bound hi st.size st.size with
    |none=>none
    |some h=>match bound lo h 0 with
     |none=>none
     |some l=>some (.str (st.extract l h))
  |.slice e,.af=>match T.get e with
   |none=>none
   |some _=>match bound dk 0 0 with
    |none=>none
    |some m=>match bound hi m 0 with
     |none=>none
     |some h=>match bound lo h 0,Nat.ble h m with
      |some _,true=>some .af
      |_,_=>none
  |.slice e,.bx b o len cap _=>match T.get e with
   |none=>none
   |some te=>match bound dk cap cap with
    |none=>none
    |some m=>match bound hi m len with
     |none=>none
     |some h=>match bound lo h 0,Nat.ble h m with
      |some l,true=>some (.bx b (o+l*te.size) (h - l) (m - l) te.size)
      |_,_=>none
  |.slice e,.fs cs len=>match T.get e with
   |none=>none
   |some te=>wB te.size len cs lo hi dk
  |.array n e,.ptr b o=>match T.get e with
   |none=>none
   |some te=>match bound dk n n with
    |none=>none
    |some m=>match bound hi m n with
     |none=>none
     |some h=>match bound lo h 0,Nat.ble h m with
      |some l,true=>some (.bx b (o+l*te.size) (h - l) (m - l) te.size)
      |_,_=>none
  |.array n e,.fu cs=>match T.get e with
   |none=>none
   |some te=>wB te.size n cs lo hi dk
  |_,_=>none
def uA(n:Nat)(cs:List V):Option V:=
 match Nat.ble n cs.length with
 |true=>some (.fu (cs.drop n))
 |false=>none
def tz(T:Types)(t:Nat)(x c1:V):Option V:=
 match T.get t,x,c1 with
 |some { kind:=.slice e, .. },.bx b o len _ _,.int _ i=>match T.get e with
  |some te=>if 0<=i∧i<len then some (.ptr b (o+i.toNat*te.size)) else none
  |none=>none
 |some { kind:=.slice e, .. },.fs cs len,.int _ i=>match T.get e with
  |some te=>if 0<=i∧i<len then uA (i.toNat*te.size) cs else none
  |none=>none
 |some { kind:=.array len e, .. },.ptr b o,.int _ i=>match T.get e with
  |some te=>if 0<=i∧i<len then some (.ptr b (o+i.toNat*te.size)) else none
  |none=>none
 |some { kind:=.array len e, .. },.fu cs,.int _ i=>match T.get e with
  |some te=>if 0<=i∧i<len then uA (i.toNat*te.size) cs else none
  |none=>none
 |_,_,_=>none
def sv(T:Types)(t:Nat)(x c1:V):Option V:=
 match T.get t,x,c1 with
 |some { kind:=.array len e, .. },.agg cs,.int _ i=>match T.get e with
  |some te=>if 0<=i∧i<len then part te cs (i.toNat*te.size) else none
  |none=>none
 |some { kind:=.string, .. },.str st,.int _ i=>if 0<=i then (match st.data.toList.drop i.toNat with
   |b::_=>some (.int .u8 b.toNat)
   |[]=>none) else none
 |_,_,_=>none
def AI(s:S)(x:V):Option (List (V×V)):=
 match x with
 |.sC=>some []
 |.map r=>match s.h.get r with
  |some (.map es _)=>some es
  |_=>none
 |_=>none
def RR(z:V)(ok:Bool):Option V->V
 |some v=>match ok with
  |true=>.da [v,.bool true]
  |false=>v
 |none=>match ok with
  |true=>.da [z,.bool false]
  |false=>z
def sz(T:Types)(t:Nat)(s:S)(x k:V)(ok:Bool):Option V:=
 match T.get t with
 |some { kind:=.map lU Bb, .. } =>match T.get lU,T.get Bb with
  |some { kind:=.int _, .. },some sM=>match AI s x,k with
   |some es,.int q a=>match kr (.int q a) es with
    |some f=>some (RR (np sM.zero) ok f)
    |none=>none
   |_,_=>none
  |_,_=>none
 |_=>none
def qS(T:Types)(t:Nat)(s:S)(x k v:V):Option S:=
 match v with
 |.bad=>none
 |v=>match T.get t with
  |some { kind:=.map lU _, .. } =>match T.get lU,x,k with
   |some { kind:=.int _, .. },.map r,.int q a=>match s.h.get r with
    |some (.map es true)=>match kr (.int q a) es with
     |some _=>some { s with h:=s.h.set r (.map (mQ (.int q a) v es) true),ag:=min s.ag r }
     |none=>none
    |_=>none
   |_,_,_=>none
  |_=>none
def s3(T:Types)(t:Nat)(ps:List (Nat×V)):Option V:=
 match T.get t with
 |some ti=>match ti.kind with
  |.struct ew=>
   match mf (λi=>match ew.drop i with
    |(jU,off)::_=>match T.get jU with
     |some ti=>some (off,ti.size)
     |none=>none
    |[]=>none) (zero ti) ps with
   |some l=>some (.agg l)
   |none=>none
  |.array _ e=>match T.get e with
   |some te=>match mf (λi=>some (i*te.size,te.size)) (zero ti) ps with
    |some l=>some (.agg l)
    |none=>none
   |none=>none
  |_=>none
 |none=>none
def qy(T:Types)(t len:Nat)(ps:List (Nat×V))(s:S):Option (V×S):=
 match T.get t with
 |some { kind:=.slice e, .. } =>match T.get e with
  |some te=>match Nat.ble (len*te.size) 16777216 with
   |true=>match mf (λi=>some (i*te.size,te.size)) (cC len (zero te)) ps with
    |some l=>some (.bx s.n 0 len len te.size,newObj s (.cells l e false true))
    |none=>none
   |false=>none
  |none=>none
 |_=>none
def eV(T:Types)(t:Nat)(len cap:V)(s:S):Option (V×S):=
 match T.get t,len,cap with
 |some { kind:=.slice e, .. },.int .i64 l,.int .i64 c=>match T.get e with
  |some te=>if 0<=l∧l<=c∧te.bytes*c<=281474976710656∧c<=4611686018427387904 then
    some (.bx s.n 0 l.toNat c.toNat te.size,newObj s (.cells (cC c.toNat (zero te)) e false true))
   else none
  |none=>none
 |_,_,_=>none
def n1(T:Types)(src dst:Nat)(x:V)(s:S):Option (V×S):=
 match T.get src,T.get dst,x with
 |some { kind:=.int _, .. },some { kind:=.int k, .. },.int _ n=>some (.int k (k.wrap n),s)
 |some { kind:=.string, .. },some { kind:=.string, .. },.str st=>some (.str st,s)
 |some { kind:=.slice e, .. },some { kind:=.string, .. },x=>match T.get e with
  |some { kind:=.int .u8, .. } =>match x with
   |.af=>some (.str .empty,s)
   |.bx b o len _ _=>match qh s b o len with
    |some l=>match qQ l with
     |some bs=>some (.str ⟨bs.toArray⟩,s)
     |none=>none
    |none=>none
   |.fs cs len=>match takeN len cs with
    |some l=>match qQ l with
     |some bs=>some (.str ⟨bs.toArray⟩,s)
     |none=>none
    |none=>none
   |_=>none
  |_=>none
 |some { kind:=.string, .. },some { kind:=.slice e, .. },.str st=>match T.get e with
  |some { kind:=.int .u8,size:=z, .. } =>match Nat.beq z 1 with
   |true=>some (.bx s.n 0 st.size st.size 1,newObj s (.cells (ofBytes st.data.toList) e true true))
   |false=>none
  |_=>none
 |_,_,_=>none
def s5(T:Types)(t:Nat)(x:V)(f:Nat):Option V:=
 match T.get t with
 |some { kind:=.struct ew, .. } =>match ew.drop f with
  |(jU,off)::_=>match T.get jU with
   |some ti=>match Nat.blt 0 ti.size with
    |true=>match x with
     |.ptr b o=>some (.ptr b (o+off))
     |.fu cs=>uA off cs
     |_=>none
    |false=>none
   |none=>none
  |[]=>none
 |_=>none
def s6(T:Types)(t:Nat)(x:V)(f:Nat):Option V:=
 match T.get t,x with
 |some { kind:=.struct ew, .. },.agg cs=>match ew.drop f with
  |(jU,off)::_=>match T.get jU with
   |some ti=>part ti cs off
   |none=>none
  |[]=>none
 |_,_=>none
def en:V->Bool
 |.bad=>true
 |_=>false
def ix(T:Types)(c:Call)(ρ:Operand->V)(s:S):Option (jr×S):=
 match c.callee with
 |.builtin b=>match (c.args.toList.map ρ).any en with
  |true=>none
  |false=>iR T b c.argTypes.toList (c.args.toList.map ρ) s
 |.invoke _ _=>none
 |.value f=>match ρ f with
  |.fn g first captured=>some (.call g (first++(c.args.toList.map ρ++captured)),s)
  |.yield l=>some (.round l (c.args.toList.map ρ),s)
  |_=>none
def lA(ρ:Operand->V)(ps:Array (Nat×Operand)):List (Nat×V):=ps.toList.map λp=>(p.1,ρ p.2)
def evalOp(T:Types)(ρ:Operand->V)(s:S)(o:Op):Option (jr×S):=
 match o with
 |.move x=>some (.val (ρ x),s)
 |.assign x=>some (.val (ρ x),s)
 |.pick c a b=>match ρ c with
  |.bool true=>some (.val (ρ a),s)
  |.bool false=>some (.val (ρ b),s)
  |_=>none
 |.alloc t=>match T.get t with
  |some ti=>some (.val (.ptr s.n 0),newObj s (.cells (zero ti) t false true))
  |none=>none
 |.box t x=>match ρ x with
  |.bad=>none
  |v=>some (.val (.ptr s.n 0),newObj s (.cells (eJ v) t false true))
 |.build t ps=>one (s3 T t (lA ρ ps)) s
 |.buildSlice t len ps=>two (qy T t len (lA ρ ps) s)
 |.load t a=>match T.get t with
  |some ti=>one (loadT ti s (ρ a)) s
  |none=>none
 |.store t a x=>match T.get t with
  |some ti=>three (storeT ti s (ρ a) (ρ x))
  |none=>none
 |.nilCheck x=>match ρ x with
  |.ptr b o=>some (.val (.ptr b o),s)
  |.fu cs=>some (.val (.fu cs),s)
  |.fn f a b=>some (.val (.fn f a b),s)
  |.yield l=>some (.val (.yield l),s)
  |_=>none
 |.binOp op t x y _=>one (bin op (T.get t) (ρ x) (ρ y)) s
 |.unOp op _ x=>one (un op (ρ x)) s
 |.convert a b x=>two (n1 T a b (ρ x) s)
 |.makeFunc fn first captured=>match fn with
  |.func f=>some (.val (.fn f (first.toList.map ρ) (captured.toList.map ρ)),s)
  |_=>none
 |.makeMap t r=>match T.get t,r with
  |some { kind:=.map _ _, .. },none=>some (.val (.map s.n),newObj s (.map [] true))
  |_,_=>none
 |.mapUpdate t m k v=>three (qS T t s (ρ m) (ρ k) (ρ v))
 |.makeSlice t l c=>two (eV T t (ρ l) (ρ c) s)
 |.slice t x lo hi dk=>match hi,dk with
  |none,some _=>none
  |hi,dk=>one (nU T t (ρ x) (lo.map ρ) (hi.map ρ) (dk.map ρ)) s
 |.fieldAddr t x f=>one (s5 T t (ρ x) f) s
 |.field t x f=>one (s6 T t (ρ x) f) s
 |.indexAddr t x i=>one (tz T t (ρ x) (ρ i)) s
 |.index t x i=>one (sv T t (ρ x) (ρ i)) s
 |.lookup t x i ok=>one (sz T t s (ρ x) (ρ i) ok) s
 |.extract t i=>match ρ t with
  |.da vs=>match vs.drop i with
   |v::_=>some (.val v,s)
   |[]=>none
  |_=>none
 |.call c=>ix T c ρ s
 |_=>none
def iy(f:V->Option (V×List Nat)):List V->Option (List V×List Nat)
 |[]=>some ([],[])
 |v::r=>match f v with
  |none=>none
  |some (v,bs)=>match iy f r with
   |none=>none
   |some (r,cs)=>some (v::r,bs++cs)
def r8(s:S)(b:Nat)(bs:List Nat):List Nat:=
 match s.h.get b with
 |some (.cells _ _ _ false)=>bs
 |_=>b::bs
def fq(s:S):Nat->V->Option (V×List Nat)
 |0,_=>none
 |n+1,v=>match v with
  |.bx b o l c z=>match Nat.ble l c with
   |false=>none
   |true=>match qh s b o (l*z) with
    |none=>none
    |some cs=>match iy (fq s n) cs with
     |some (cs,bs)=>some (.fs cs l,r8 s b bs)
     |none=>none
  |.agg cs=>match iy (fq s n) cs with
   |some (cs,bs)=>some (.agg cs,bs)
   |none=>none
  |.da cs=>match iy (fq s n) cs with
   |some (cs,bs)=>some (.da cs,bs)
   |none=>none
  |.fn f [] []=>some (.fn f [] [],[])
  |.fn _ _ _=>none
  |.ptr _ _=>none
  |.map _=>none
  |.yield _=>none
  |.bad=>none
  |v=>some (v,[])
def mark:List Nat->S->S
 |[],s=>s
 |b::r,s=>match s.h.get b with
  |some (.cells cs e bx _)=>mark r { s with h:=s.h.set b (.cells cs e bx false) }
  |_=>mark r s
def nI:List V->S->List V×List Nat×S
 |[],s=>([],[],s)
 |v::r,s=>match fq s 24 v with
  |some (v,bs)=>match nI r (mark bs s) with
   |(r,l,s)=>(v::r,bs++l,s)
  |none=>match nI r s with
   |(r,l,s)=>(v::r,l,s)
def AO(n:Nat)(bs:List Nat):Bool:=bs.all λb=>Nat.ble n b
def R9(b:Nat)(bs:List Nat):Bool:=bs.all λx=> !(Nat.beq x b)
def rQ(s s':S)(v:V):Option (V×S):=
 match fq s' 24 v with
 |some (v,bs)=>match AO s.n bs with
  |true=>some (v,s)
  |false=>none
 |none=>none
def pack(s s':S)(v:V):Option (V×S):=
 match v with
 |.bx b o l c z=>match s'.h.get b with
  |some (.cells cs e bw true)=>match iy (fq s' 24) cs with
   |some (cs,bs)=>match Nat.ble s.n b && (AO s.n bs && R9 b bs) with
    |true=>some (.bx s.n o l c z,newObj s (.cells cs e bw true))
    |false=>none
   |none=>none
  |some (.cells _ _ _ false)=>rQ s s' v
  |_=>none
 |v=>rQ s s' v
def packed(s s':S)(v:V):V×S:=
 match Nat.ble s.n s.ag && Nat.ble s.n s'.ag with
 |true=>match pack s s' v with
  |some r=>r
  |none=>(v,s')
 |false=>(v,s')
def cp(ρ:Operand->V):Op->Reach
 |.load _ a=>some (cc (ρ a))
 |.store _ a _=>some (cc (ρ a))
 |.lookup _ x _ _=>some (cc (ρ x))
 |.mapUpdate _ x _ _=>some (cc (ρ x))
 |.convert _ _ x=>some (cc (ρ x))
 |.call c=>match c.callee with
  |.builtin _=>some (c.args.toList.flatMap λx=>cc (ρ x))
  |_=>none
 |_=>some []
where cc:V->List Nat
 |.ptr b _=> [b]
 |.bx b _ _ _ _=> [b]
 |.map b=> [b]
 |.fs _ _=> [0]
 |.fu _=> [0]
 |_=> []
def hM(ρ:Operand->V):Op->Reach
 |.store _ a _=>some (cp.cc (ρ a))
 |.mapUpdate _ x _ _=>some (cp.cc (ρ x))
 |.call c=>match c.callee with
  |.builtin _=>match c.args.toList with
   |x::_=>some (cp.cc (ρ x))
   |[]=>some []
  |_=>none
 |_=>some []
def writes(ρ:Operand->V)(o:Op)(wrote:Bool):Reach:=
 match wrote with
 |false=>some []
 |true=>hM ρ o
def jQ(ops:Array Oper)(e:aJ V)(o:Oper):Option Bool:=
 match o.guard with
 |none=>some true
 |some (j,want)=>match (ops[j]?).bind (·.dst) with
  |none=>some false
  |some d=>match e.get d with
   |some (.bool b)=>some (b == want)
   |some (.da [])=>some false
   |_=>none
def put(fr:F)(dst:Option Nat)(v:V)(s:S):Option F:=
 match dst with
 |none=>some { fr with s:=s }
 |some d=>match Nat.blt d fr.bG with
  |true=>some { fr with e:=fr.e.set d v,s:=s }
  |false=>none
structure ct where
 f:fM
 z:List Nat
def zr(flags:List ct):Bool:=(flags.all λx=>match x.z with
 |[]=>true
 |z=>flags.all λy=> !(y.f.w.meets (some z))) && ((flags.all λx=>x.f.w.isSome) || (flags.all λx=>match x.f.w with
 |some (_::_)=>false
 |_=>true))
def yr(ops:Array Oper)(flags:List ct):Bool:=uz ops (flags.map (·.f)) && zr flags
inductive Task where
 |code (c:Code) (ro:Option Nat) (fr:F)
 |run (ops:Array Oper) (aP:Bool) (flags:List ct) (l:List Oper) (fr:F)
 |call (f:Nat) (args:List V) (s:S)
 |round (l:Nat) (args:List V) (s:S)
inductive dG where
 |code (x:r7) (fr:F)
 |val (v:V) (s:S)
def lB(T:Types)(rs:List ResultVar)(fr:F):Option (List V):=
 match rs with
 |[]=>some []
 |.tmp t::r=>match lB T r fr with
  |some l=>some (bl fr.e (.tmp t)::l)
  |none=>none
 |.cell a t::r=>match T.get t with
  |some ti=>match loadT ti fr.s (bl fr.e (.tmp a)) with
   |some v=>match lB T r fr with
    |some l=>some (v::l)
    |none=>none
   |none=>none
  |_=>none
def pI:List V->V
 |[v]=>v
 |l=>.da l
def shut:List Nat->S->Option S
 |[],s=>some s
 |b::r,s=>match s.h.get b with
  |some .defs=>shut r { s with h:=s.h.set b .dead,ag:=min s.ag b }
  |_=>none
def qP:List Nat->List V->Nat->aJ V->Option (aJ V)
 |[],[],_,e=>some e
 |t::lE,v::vs,bG,e=>match Nat.blt t bG with
  |true=>qP lE vs bG (e.set t v)
  |false=>none
 |_,_,_,_=>none
def kR(s:S)(l:Nat)(r:Eh):S:= { s with h:=s.h.set l (.loop r),ag:=min s.ag l }
def done(fr:F)(o:Oper)(v:V)(s:S)(c:F->Bool->Nat->Option dG):Option dG:=
 match put fr o.dst v { s with ag:=min fr.s.ag s.ag } with
 |none=>none
 |some fr'=>c fr' (Nat.blt s.ag fr.s.n) s.n
abbrev Rec:=Task->Option dG
abbrev bo:=Nat->Option (List V->S->Option V)
def lY(rec:Rec)(ro:Option Nat)(fr:F)(f:Operand)(ps:Array Tmp)(assign body:Code)(d:Nat)(ms:List Nat)(s:S):Option dG:=
 match bl fr.e f with
 |.fn g first captured=>
  match rec (.call g (first++(.yield s.n::captured))
    (newObj s (.loop { state:=.ready,pending:=none,e:=fr.e,bG:=fr.bG,params:=ps.toList,assign:=assign,body:=body,defers:=d }))) with
  |some (.val _ s')=>match s'.h.get s.n with
   |some (.loop r)=>match r.state with
    |.busy=>none
    |_=>match r.pending with
     |none=>some (.code .normal { fr with s:=kR s' s.n { r with state:=.exhausted },ms:=ms })
     |some c=>rec (.code c ro { fr with s:=kR s' s.n { r with state:=.exhausted },ms:=ms })
   |_=>none
  |_=>none
 |_=>none
def o4(rec:Rec)(ro:Option Nat)(fr:F)(c:Code):Option dG:=
 match rec (.code c ro fr) with
 |some (.code .normal fr)=>rec (.code (.loop c) ro fr)
 |r=>r
def pG(rec:Rec)(ro:Option Nat)(fr:F)(a b:Code):Option dG:=
 match rec (.code a ro fr) with
 |some (.code .normal fr)=>rec (.code b ro fr)
 |r=>r
def qj(rec:Rec)(ro:Option Nat)(fr:F)(id:Nat)(c:Code):Option dG:=
 match rec (.code c ro fr) with
 |some (.code (.exit j) fr)=>match Nat.beq j id with
  |true=>some (.code .normal fr)
  |false=>some (.code (.exit j) fr)
 |r=>r
def qk(rec:Rec)(ro:Option Nat)(fr:F)(c:Operand)(a b:Code):Option dG:=
 match bl fr.e c with
 |.bool true=>rec (.code a ro fr)
 |.bool false=>rec (.code b ro fr)
 |_=>none
def sJ(rec:Rec)(ro:Option Nat)(fr:F)(f:Operand)(ps:Array Tmp)(assign body:Code):Option dG:=
 match ro with
 |some l=>match fr.s.h.get l with
  |some (.loop r)=>lY rec ro fr f ps assign body r.defers fr.ms fr.s
  |_=>none
 |none=>lY rec ro fr f ps assign body fr.s.n (fr.s.n::fr.ms) (newObj fr.s .defs)
def mS(rec:Rec)(c:Code)(ro:Option Nat)(fr:F):Option dG:=
 match c with
 |.skip=>some (.code .normal fr)
 |.label _=>some (.code .normal fr)
 |.ret=>some (.code .ret fr)
 |.exit id=>some (.code (.exit id) fr)
 |.goto _=>none
 |.region _ ops aP=>rec (.run ops aP [] ops.toList fr)
 |.seq a b=>pG rec ro fr a b
 |.cond c a b=>qk rec ro fr c a b
 |.block id c=>qj rec ro fr id c
 |.loop c=>o4 rec ro fr c
 |.scope c=>rec (.code c ro fr)
 |.rangeFunc f ps assign body=>sJ rec ro fr f ps assign body
 |.refuse _=>none
def ll(aP:Bool)(x:ct)(l:List ct):List ct:=
 match aP with
 |true=>x::l
 |false=>l
def least:List Nat->Nat->Nat
 |[],n=>n
 |b::r,n=>least r (min b n)
def vG(fr:F)(o:Oper)(v:V)(bs:List Nat)(s:S)(c:F->Bool->Nat->Option dG):Option dG:=
 match put fr o.dst v { s with ag:=least bs (min fr.s.ag s.ag) } with
 |none=>none
 |some fr'=>c fr' (Nat.blt s.ag fr.s.n) s.n
def kG(K:Nat->Bool)(f:Nat)(args:List V)(s:S):List V×List Nat×S:=
 match K f with
 |true=>(args,[],s)
 |false=>nI args s
def la(K:Nat->Bool)(T:Types)(rec:Rec)(ops:Array Oper)(aP:Bool)(flags:List ct)(o:Oper)(l:List Oper)(fr:F):Option dG:=
 match evalOp T (bl fr.e) { fr.s with ag:=fr.s.n } o.op with
 |none=>none
 |some (.val v,s)=>done fr o v s (λfr' wr m=>rec (.run ops aP (ll aP ⟨⟨cp (bl fr.e) o.op,writes (bl fr.e) o.op wr,fr.s.n,m⟩,[]⟩ flags) l fr'))
 |some (.call f args,s)=>match kG K f args s with
  |(args,bs,s)=>match rec (.call f args s) with
   |some (.val v s)=>vG fr o v bs s (λfr' wr m=>rec (.run ops aP (ll aP ⟨⟨none,writes (bl fr.e) o.op wr,fr.s.n,m⟩,bs⟩ flags) l fr'))
   |_=>none
 |some (.round r args,s)=>match rec (.round r args s) with
  |some (.val v s)=>done fr o v s (λfr' wr m=>rec (.run ops aP (ll aP ⟨⟨none,writes (bl fr.e) o.op wr,fr.s.n,m⟩,[]⟩ flags) l fr'))
  |_=>none
def j4(K:Nat->Bool)(T:Types)(rec:Rec)(ops:Array Oper)(aP:Bool)(flags:List ct)(l:List Oper)(fr:F):Option dG:=
 match l with
 |[]=>match aP with
  |false=>some (.code .normal fr)
  |true=>match yr ops flags.reverse with
   |true=>some (.code .normal fr)
   |false=>none
 |o::l=>
  match jQ ops fr.e o with
  |none=>none
  |some false=>done fr o (.da []) fr.s (λfr' _ m=>rec (.run ops aP (ll aP ⟨⟨some [],some [],m,m⟩,[]⟩ flags) l fr'))
  |some true=>la K T rec ops aP flags o l fr
def leave(T:Types)(fn:Func)(fr:F):Option dG:=
 match shut fr.ms fr.s with
 |none=>none
 |some s=>match lB T fn.results.toList { fr with s:=s } with
  |some l=>some (.val (pI l) s)
  |none=>none
def Dq(s:S):Option dG->Option dG
 |some (.val v s')=>match packed s s' v with
  |(v,s)=>some (.val v s)
 |_=>none
def AU(K:Nat->Bool)(f:Nat)(s:S)(r:Option dG):Option dG:=
 match K f with
 |true=>r
 |false=>Dq s r
def nt(K:Nat->Bool)(O:bo)(G:aJ Func)(T:Types)(rec:Rec)(f:Nat)(args:List V)(s:S):Option dG:=
 match O f with
 |some g=>match Nat.ble s.n s.ag with
  |true=>match g args s with
   |some v=>some (.val v s)
   |none=>none
  |false=>none
 |none=>match G.get f with
  |none=>none
  |some fn=>match fn.body with
   |none=>none
   |some c=>match Nat.ble args.length fn.ntmps with
    |false=>none
    |true=>match rec (.code c none { e:=aJ.ofList .leaf 0 args,bG:=fn.ntmps,s:=s,ms:=[] }) with
     |some (.code .normal fr)=>AU K f s (leave T fn fr)
     |some (.code .ret fr)=>AU K f s (leave T fn fr)
     |_=>none
def endRound(l:Nat)(x:r7)(fr:F):Option dG:=
 match fr.s.h.get l with
 |some (.loop r)=>match x with
  |.normal=>some (.val (.bool true) (kR fr.s l { r with state:=.ready,pending:=none }))
  |.ret=>some (.val (.bool false) (kR fr.s l { r with state:=.done,pending:=some .ret }))
  |.exit id=>some (.val (.bool false) (kR fr.s l { r with state:=.done,pending:=some (.exit id) }))
 |_=>none
def vb(rec:Rec)(l:Nat)(body:Code)(fr:F):Option dG:=
 match fr.s.h.get l with
 |some (.loop r)=>match r.state with
  |.ready=>match rec (.code body (some l) { fr with s:=kR fr.s l { r with state:=.busy } }) with
   |some (.code x fr)=>endRound l x fr
   |_=>none
  |_=>none
 |_=>none
def mT(rec:Rec)(l:Nat)(args:List V)(s:S):Option dG:=
 match s.h.get l with
 |some (.loop r)=>match qP r.params args r.bG r.e with
  |none=>none
  |some e=>match rec (.code r.assign (some l) { e:=e,bG:=r.bG,s:=s,ms:=[] }) with
   |some (.code .normal fr)=>vb rec l r.body fr
   |_=>none
 |_=>none
def step(K:Nat->Bool)(O:bo)(G:aJ Func)(T:Types)(rec:Rec)(t:Task):Option dG:=
 match t with
 |.code c ro fr=>mS rec c ro fr
 |.run ops aP flags l fr=>j4 K T rec ops aP flags l fr
 |.call f args s=>nt K O G T rec f args s
 |.round l args s=>mT rec l args s
def go(K:Nat->Bool)(O:bo)(G:aJ Func)(T:Types)(n:Nat):Rec:=
 Nat.rec (motive:=λ_=>Rec) (λ_=>none) (λ_ a3=>step K O G T a3) n
section
abbrev b8:=Nat->Option Nat
def b8.le(κ hY:b8):Prop:= ∀b c,κ b=some c->hY b=some c
theorem b8.le_refl(κ:b8):κ.le κ:=λ_ _ h=>h
abbrev vu:b8:=λ_=>none
mutual
inductive R(ak:Nat->Prop)(h:aJ hs):b8->V->Value->Prop
 |bad (κ:b8) (v:Value):R ak h κ .bad v
 |bool (κ:b8) (b:Bool):R ak h κ (.bool b) (.bool b)
 |int (κ:b8) (k:IntKind) (n:Int):R ak h κ (.int k n) (.int k n)
 |str (κ:b8) (s:ByteArray):R ak h κ (.str s) (.string s)
 |pB (κ:b8):R ak h κ .pB .nilFunc
 |AN (κ:b8):R ak h κ .AN .nilIface
 |sE (κ:b8):R ak h κ .sE (.pointer none)
 |sC (κ:b8):R ak h κ .sC (.map none)
 |af (κ:b8):R ak h κ .af (.slice none 0 0)
 |ptr (κ:b8) (b o c:Nat) (Y:κ b=some c):R ak h κ (.ptr b o) (.pointer (some ⟨c,o,none⟩))
 |bx (κ:b8) (b o l cap z c:Nat) (Y:κ b=some c):R ak h κ (.bx b o l cap z) (.slice (some ⟨c,o,none⟩) l cap)
 |fs (κ:b8) (cs:List V) (l c o cap:Nat) (vs:List Value) (e:Nat) (bw own:Bool) (aY:ak c) (aa:h.get c=some (.cells vs e bw own)) (Z:o+cs.length<=vs.length) (m8:l<=cap)
   (E:c2 ak h vu cs ((vs.drop o).take cs.length)):R ak h κ (.fs cs l) (.slice (some ⟨c,o,none⟩) l cap)
 |fu (κ:b8) (cs:List V) (c o:Nat) (vs:List Value) (e:Nat) (bw own:Bool) (aY:ak c) (aa:h.get c=some (.cells vs e bw own)) (Z:o+cs.length<=vs.length)
   (E:c2 ak h vu cs ((vs.drop o).take cs.length)):R ak h κ (.fu cs) (.pointer (some ⟨c,o,none⟩))
 |map (κ:b8) (b c:Nat) (Y:κ b=some c):R ak h κ (.map b) (.map (some c))
 |fn (κ:b8) (f:Nat) (a b:List V) (a8 a4:List Value) (av:c2 ak h κ a a8) (Y:c2 ak h κ b a4):R ak h κ (.fn f a b) (.func (.func f) ⟨a8⟩ ⟨a4⟩)
 |yield (κ:b8) (l c:Nat) (Y:κ l=some c):R ak h κ (.yield l) (.func (.yield c) #[] #[])
 |agg (κ:b8) (l:List V) (l':List Value) (Z:c2 ak h κ l l'):R ak h κ (.agg l) (.agg ⟨l'⟩)
 |da (κ:b8) (l:List V) (l':List Value) (Z:c2 ak h κ l l'):R ak h κ (.da l) (.tuple ⟨l'⟩)
inductive c2(ak:Nat->Prop)(h:aJ hs):b8->List V->List Value->Prop
 |nil (κ:b8):c2 ak h κ [] []
 |cons (κ:b8) (v:V) (v':Value) (l:List V) (l':List Value) (ad:R ak h κ v v') (Z:c2 ak h κ l l'):c2 ak h κ (v::l) (v'::l')
end
variable {ak m4:Nat->Prop}{h h':aJ hs}{κ hY:b8}
mutual
theorem R.mono(jY:∀c,ak c->m4 c)(dE:∀c,ak c->h'.get c=h.get c):∀ {κ hY:b8} {v:V} {w:Value},κ.le hY->R ak h κ v w->R m4 h' hY v w
 |_,_,_,_,_,.bad _ v=>.bad _ v
 |_,_,_,_,_,.bool _ b=>.bool _ b
 |_,_,_,_,_,.int _ k n=>.int _ k n
 |_,_,_,_,_,.str _ s=>.str _ s
 |_,_,_,_,_,.pB _=>.pB _
 |_,_,_,_,_,.AN _=>.AN _
 |_,_,_,_,_,.sE _=>.sE _
 |_,_,_,_,_,.sC _=>.sC _
 |_,_,_,_,_,.af _=>.af _
 |_,_,_,_,hk,.ptr _ b o c Y=>.ptr _ b o c (hk _ _ Y)
 |_,_,_,_,hk,.bx _ b o l cap z c Y=>.bx _ b o l cap z c (hk _ _ Y)
 |_,_,_,_,_,.fs _ cs l c o cap vs e bw own aY aa Z m8 E=>.fs _ cs l c o cap vs e bw own (jY _ aY) ((dE _ aY).trans aa) Z m8 (c2.mono jY dE (b8.le_refl _) E)
 |_,_,_,_,_,.fu _ cs c o vs e bw own aY aa Z E=>.fu _ cs c o vs e bw own (jY _ aY) ((dE _ aY).trans aa) Z (c2.mono jY dE (b8.le_refl _) E)
 |_,_,_,_,hk,.map _ b c Y=>.map _ b c (hk _ _ Y)
 |_,_,_,_,hk,.fn _ f a b a8 a4 av Y=>.fn _ f a b a8 a4 (c2.mono jY dE hk av) (c2.mono jY dE hk Y)
 |_,_,_,_,hk,.yield _ l c Y=>.yield _ l c (hk _ _ Y)
 |_,_,_,_,hk,.agg _ l l' Z=>.agg _ l l' (c2.mono jY dE hk Z)
 |_,_,_,_,hk,.da _ l l' Z=>.da _ l l' (c2.mono jY dE hk Z)
theorem c2.mono(jY:∀c,ak c->m4 c)(dE:∀c,ak c->h'.get c=h.get c):∀ {κ hY:b8} {l:List V} {l':List Value},κ.le hY->c2 ak h κ l l'->c2 m4 h' hY l l'
 |_,_,_,_,_,.nil _=>.nil _
 |_,_,_,_,hk,.cons _ v v' l l' ad Z=>.cons _ v v' l l' (R.mono jY dE hk ad) (c2.mono jY dE hk Z)
end
theorem c2.up{l:List V}{l':List Value}(E:c2 ak h vu l l'):c2 ak h κ l l':=E.mono (λ_ h=>h) (λ_ _=>rfl) (λ_ _ h=>by cases h)
theorem c2.length{l:List V}{l':List Value}(E:c2 ak h κ l l'):l.length=l'.length:=by
 induction l generalizing l' with
 |nil=>cases E;rfl
 |cons v l a3=>cases E with|cons _ _ v' _ l' h Z=>simp[a3 Z]
theorem c2.append{a b:List V}{a8 a4:List Value}(av:c2 ak h κ a a8)(Y:c2 ak h κ b a4):c2 ak h κ (a++b) (a8++a4):=by
 induction a generalizing a8 with
 |nil=>cases av;exact Y
 |cons v a a3=>cases av with|cons _ _ v' _ a8 h Z=>exact .cons _ _ _ _ _ h (a3 Z)
theorem c2.take{a:List V}{a8:List Value}(av:c2 ak h κ a a8)(n:Nat):c2 ak h κ (a.take n) (a8.take n):=by
 induction a generalizing a8 n with
 |nil=>cases av;simp;exact .nil _
 |cons v a a3=>cases av with
  |cons _ _ v' _ a8 h Z=>cases n with
   |zero=>exact .nil _
   |succ n=>exact .cons _ _ _ _ _ h (a3 Z n)
theorem c2.drop{a:List V}{a8:List Value}(av:c2 ak h κ a a8)(n:Nat):c2 ak h κ (a.drop n) (a8.drop n):=by
 induction a generalizing a8 n with
 |nil=>cases av;simp;exact .nil _
 |cons v a a3=>cases av with
  |cons _ _ v' _ a8 h Z=>cases n with
   |zero=>exact .cons _ _ _ _ _ h Z
   |succ n=>exact a3 Z n
theorem c2.get{l:List V}{l':List Value}(E:c2 ak h κ l l'){j:Nat}{v:V}(aG:l[j]? =some v):∃v',l'[j]? =some v'∧R ak h κ v v':=by
 induction l generalizing l' j with
 |nil=>simp at aG
 |cons u l a3=>
  cases E with
  |cons _ _ kS _ l' h Z=>
   cases j with
   |zero=>simp at aG;subst aG;exact ⟨kS,rfl,h⟩
   |succ j=>simp at aG;simpa using a3 Z aG
theorem c2.gp{a b:List V}{a8 a4:List Value}(av:c2 ak h κ a a8)(Y:c2 ak h κ b a4)(off:Nat):c2 ak h κ (gp a off b) (ah.gp a8 off a4):=by
 unfold X.gp ah.gp;rw[Y.length];exact (av.take off).append (Y.append (av.drop _))
theorem R.eJ{v:V}{w:Value}(E:R ak h κ v w)(Y:v≠ .bad):c2 ak h κ (eJ v) (ah.eJ w):=by
 cases E<;>first|(exact absurd rfl Y)|(exact .cons _ _ _ _ _ (by constructor<;>assumption) (.nil _))|assumption
theorem R.bL{v:V}{w:Value}(E:R ak h κ v w)(ae:bL v=true):scalar w=true:=by
 cases E<;>first|rfl|(simp[X.bL]at ae)
theorem c2.bL{l:List V}{l':List Value}(E:c2 ak h κ l l')(ae:l.all bL=true):l'.all scalar=true:=by
 induction l generalizing l' with
 |nil=>cases E;rfl
 |cons v l a3=>
  cases E with
  |cons _ _ v' _ l' ad Z=>
   simp only[gS,dU]at ae ⊢;exact ⟨ad.bL ae.1,a3 Z ae.2⟩
theorem R.lV(v:Value):R ak h κ (lV v) v:=by
 unfold X.lV;split;exact .bool _ _;exact .int _ _ _;exact .str _ _;exact .pB _;exact .AN _;exact .sE _;exact .sC _;exact .af _;exact .fn _ _ _ _ _ _ (.nil _) (.nil _);exact .bad _ _
theorem c2.lV:∀l:List Value,c2 ak h κ (l.map lV) l
 |[]=>.nil _
 |v::l=>.cons _ _ _ _ _ (R.lV v) (c2.lV l)
theorem R.np(v:Value):R ak h κ (np v) v:=by
 unfold X.np;split;exact .agg _ _ _ (c2.lV _);exact R.lV v
theorem c2.zero(t:cb):c2 ak h κ (zero t) (ah.eJ t.zero):=c2.lV _
def pO(ak:Nat->Prop)(h:aJ hs)(κ:b8)(e:aJ V)(aZ:aJ Value):Prop:= ∀t,R ak h κ (bl e (.tmp t)) (ah.bl aZ (.tmp t))
theorem pO.mono{e:aJ V}{aZ:aJ Value}(E:pO ak h κ e aZ)(jY:∀c,ak c->m4 c)(dE:∀c,ak c->h'.get c=h.get c)(hk:κ.le hY):pO m4 h' hY e aZ:=
 λt=>(E t).mono jY dE hk
theorem pO.set{e:aJ V}{aZ:aJ Value}(E:pO ak h κ e aZ)(d:Nat){v:V}{w:Value}(ad:R ak h κ v w):pO ak h κ (e.set d v) (aZ.set d w):=by
 intro t;by_cases aO:t=d;subst aO;simpa [bl,ah.bl,aJ.jV] using ad;have:=E t;simpa [bl,ah.bl,aJ.hj _ _ aO] using this
def Om(aq:Nat)(κ:b8):Prop:= ∀g,g<aq->κ g=some g
theorem pO.bl{aq:Nat}{e:aJ V}{aZ:aJ Value}(E:pO ak h κ e aZ)(au:Om aq κ){x:Operand}(hx:tM aq x=true):R ak h κ (bl e x) (ah.bl aZ x):=by
 cases x with
 |tmp t=>exact E t
 |const v=>exact R.np v
 |global g=>exact .ptr _ _ _ _ (au g (by simpa [tM,gy] using hx))
 |func f=>exact .fn _ _ _ _ _ _ (.nil _) (.nil _)
def qs(ak:Nat->Prop)(h:aJ hs)(κ:b8):List (V×V)->List (Value×Value)->Prop
 |[],[]=>True
 |(k,v)::es,(k',v')::iS=>R ak h κ k k'∧R ak h κ v v'∧qs ak h κ es iS
 |_,_=>False
theorem qs.mono(jY:∀c,ak c->m4 c)(dE:∀c,ak c->h'.get c=h.get c)(hk:κ.le hY):∀ {es:List (V×V)} {iS:List (Value×Value)},qs ak h κ es iS->qs m4 h' hY es iS
 |[],[],_=>trivial
 |(_,_)::_,(_,_)::_,⟨a,b,c⟩=>⟨a.mono jY dE hk,b.mono jY dE hk,qs.mono jY dE hk c⟩
 |[],_::_,h=>h.elim
 |(_,_)::_,[],h=>h.elim
structure BG(aq:Nat)(ak:Nat->Prop)(h:aJ hs)(κ:b8)(r:Eh)(r':yk):Prop where
 state:r.state=r'.state
 pending:r.pending=r'.pending
 env:pO ak h κ r.e r'.e
 bG:r.bG=r'.bG
 params:r.params=r'.params
 assign:r.assign=r'.assign
 body:r.body=r'.body
 defers:κ r.defers=some r'.defers
 ok:codeOk aq r.assign=true∧codeOk aq r.body=true
 wc:r.pending=none∨r.pending=some .ret∨ ∃id,r.pending=some (.exit id)
def BJ(aq:Nat)(ak:Nat->Prop)(h:aJ hs)(κ:b8)(o:Obj)(o':hs):Prop:=
 match o with
 |.cells cs e bw own=> ∃vs ja,o'=.cells vs e bw ja∧c2 ak h κ cs vs∧(own=true->ja=true)
 |.map es own=> ∃iS ja,o'=.map iS ja∧qs ak h κ es iS∧(own=true->ja=true)
 |.loop r=> ∃r',o'=.loop r'∧BG aq ak h κ r r'
 |.defs=>o'=.defs
 |.dead=>True
theorem BJ.mono{aq:Nat}{o:Obj}{o':hs}(E:BJ aq ak h κ o o')(jY:∀c,ak c->m4 c)(dE:∀c,ak c->h'.get c=h.get c)(hk:κ.le hY):BJ aq m4 h' hY o o':=by
 cases o with
 |cells cs e bw own=>obtain ⟨vs,ja,J,U,aj⟩:=E;exact ⟨vs,ja,J,U.mono jY dE hk,aj⟩
 |map es own=>obtain ⟨vs,ja,J,U,aj⟩:=E;exact ⟨vs,ja,J,U.mono jY dE hk,aj⟩
 |loop r=>
  obtain ⟨r',J,U⟩:=E;exact ⟨r',J,⟨U.state,U.pending,U.env.mono jY dE hk,U.bG,U.params,U.assign,U.body,hk _ _ U.defers,U.ok,U.wc⟩⟩
 |defs=>exact E
 |dead=>trivial
def LQ:Obj->Bool
 |.cells _ _ _ own=>own
 |.map _ own=>own
 |.loop _=>true
 |.defs=>true
 |.dead=>false
structure dP(aq:Nat)(κ:b8)(ak:Nat->Prop)(s:S)(s':b9):Prop where
 obj:∀b o c,s.h.get b=some o->κ b=some c-> ∃o',s'.h.get c=some o'∧BJ aq ak s'.h κ o o'
 lt:∀b c,κ b=some c->b<s.n∧c<s'.n
 inj:∀b a4 c,κ b=some c->κ a4=some c->b=a4
 sep:∀b o c,s.h.get b=some o->LQ o=true->κ b=some c-> ¬ak c
 vh:∀c,ak c->c<s'.n
 ag:s.ag<=s.n∧s'.ag<=s'.n
 pk:Om aq κ
 gl:∀b cs e bw c,s.h.get b=some (.cells cs e bw false)->κ b=some c->ak c
structure Ext(κ:b8)(ak:Nat->Prop)(s:S)(s':b9)(bR:b8)(cx:Nat->Prop)(aK:S)(bA:b9):Prop where
 n:s.n<=aK.n
 sD:s'.n<=bA.n
 sw:∀b,b<s.n->bR b=κ b
 new:∀b c,s.n<=b->bR b=some c->s'.n<=c
 tV:∀c,ak c->cx c
 sN:∀c,ak c->bA.h.get c=s'.h.get c
 DV:∀c,cx c->ak c∨s'.n<=c∨ ∃b,κ b=some c∧aK.ag<=b
 ag:aK.ag<=s.ag
 DR:∀hH sd,(∀b c,bR b=some c->hH<=b->sd<=c)->hH<=aK.ag->sd<=s'.ag->sd<=bA.ag
variable {aq:Nat}{s aK iD:S}{s' bA o6:b9}{bR hN:b8}{cx hS:Nat->Prop}
theorem Ext.le(x:Ext κ ak s s' bR cx aK bA)(m:dP aq κ ak s s'):κ.le bR:=λb c Y=>by rw[x.sw b (m.lt b c Y).1];exact Y
theorem Ext.refl(m:dP aq κ ak s s'):Ext κ ak s s' κ ak s s':=
 ⟨cg _,cg _,λ_ _=>rfl,λb c J U=>by have:=m.lt b c U;omega,λ_ h=>h,λ_ _=>rfl,λ_ h=>.inl h,cg _,λ_ _ _ _ h=>h⟩
theorem Ext.trans(x:Ext κ ak s s' bR cx aK bA)(y:Ext bR cx aK bA hN hS iD o6)(m:dP aq bR cx aK bA):Ext κ ak s s' hN hS iD o6:=by
 refine ⟨gb x.n y.n,gb x.sD y.sD,λb Y=>?_,λb c J U=>?_,λc h=>y.tV c (x.tV c h),λc h=>?_,λc h=>?_,gb y.ag x.ag,λhH sd aa Y hw=>?_⟩;rw[y.sw b (r0 Y x.n),x.sw b Y];by_cases aj:b<aK.n;rw[y.sw b aj]at U;exact x.new b c J U;exact gb x.sD (y.new b c D U);rw[y.sN c (x.tV c h),x.sN c h];rcases y.DV c h with J|J|⟨b,J,U⟩
 rcases x.DV c J with aj|aj|⟨b,aj,aH⟩
 exact .inl aj;exact .inr (.inl aj);exact .inr (.inr ⟨b,aj,gb y.ag aH⟩);exact .inr (.inl (gb x.sD J));by_cases aj:b<s.n;rw[x.sw b aj]at J;exact .inr (.inr ⟨b,J,U⟩);exact .inr (.inl (x.new b c D J));refine y.DR hH sd aa Y (x.DR hH sd (λb c J U=>aa b c ?_ U) (gb Y y.ag) hw);rw[y.sw b (m.lt b c J).1];exact J
def jg(κ:b8)(ak:Nat->Prop)(s:S)(s':b9)(bR:b8)(cx:Nat->Prop)(aK:S)(bA:b9):Prop:=Ext κ ak s s' bR cx aK bA∧(bA.n=s'.n∨s.n<aK.n)
theorem jg.refl(m:dP aq κ ak s s'):jg κ ak s s' κ ak s s':=⟨Ext.refl m,.inl rfl⟩
theorem jg.trans(x:jg κ ak s s' bR cx aK bA)(y:jg bR cx aK bA hN hS iD o6)(m:dP aq bR cx aK bA):jg κ ak s s' hN hS iD o6:=by
 refine ⟨x.1.trans y.1 m,?_⟩;have J:=x.1.n;have U:=y.1.n;rcases x.2 with e|e
 rcases y.2 with f|f
 exact .inl D;exact .inr D;exact .inr D
end
section
variable {ak m4:Nat->Prop}{h h':aJ hs}{κ hY:b8}{aq:Nat}{s aK iD:S}{s' bA o6:b9}{bR hN:b8}{cx hS:Nat->Prop}{T:Types}
theorem GU(m:dP aq κ ak s s'){b c:Nat}{oj o:Obj}{o':hs}(Y:s.h.get b=some oj)(Z:LQ oj=true)(hk:κ b=some c)(aE:BJ aq ak s'.h κ o o')(QR:∀cs e bw,o≠ .cells cs e bw false:=by intro _ _ _ h;cases h):
  jg κ ak s s' κ ak { s with h:=s.h.set b o,ag:=min s.ag b } { s' with h:=s'.h.set c o',ag:=min s'.ag c } ∧
  dP aq κ ak { s with h:=s.h.set b o,ag:=min s.ag b } { s' with h:=s'.h.set c o',ag:=min s'.ag c } :=by
 have aY: ¬ak c:=m.sep b oj c Y Z hk;have dE:∀d,ak d->(s'.h.set c o').get d=s'.h.get d:=λd ai=>aJ.hj _ _ (λe=>aY (e ▸ ai));have Ah:∀d,ak d->ak d:=λ_ h=>h;refine ⟨⟨⟨cg _,cg _,λ_ _=>rfl,λb c J U=>?_,Ah,dE,λ_ h=>.inl h,Nat.min_le_left _ _,λhH sd aa J U=>?_⟩,.inl rfl⟩,⟨λd u4 e J U=>?_,m.lt,m.inj,λd u4 e J U aj=>?_,m.vh,?_,m.pk,λd cs e bw f J U=>?_⟩⟩;have:=m.lt b c U;omega;have aj:hH<=b:=gb J (Nat.min_le_right _ _);have:=aa b c hk aj;simp only[];omega;simp only[]at J ⊢;by_cases ai:d=b;subst ai;rw[aJ.jV]at J;cases J;rw[hk]at U;cases U;exact ⟨o',aJ.jV _ _ _,aE.mono Ah dE (b8.le_refl _)⟩;rw[aJ.hj _ _ ai]at J;obtain ⟨Gx,aj,aH⟩:=m.obj d u4 e J U;have he:e≠c:=λx=>ai (m.inj d b c (x ▸ U) hk);exact ⟨Gx,by rw[aJ.hj _ _ he];exact aj,aH.mono Ah dE (b8.le_refl _)⟩;simp only[]at J;by_cases ai:d=b;subst ai;rw[hk]at aj;cases aj;exact aY;rw[aJ.hj _ _ ai]at J;exact m.sep d u4 e J U aj;have:=m.ag;simp only[];omega;simp only[]at J;by_cases ai:d=b;subst ai;rw[aJ.jV]at J;cases J;exact absurd rfl (QR _ _ _);rw[aJ.hj _ _ ai]at J;exact m.gl d cs e bw f J U
def b8.add(κ:b8)(b c:Nat):b8:=λx=>if x=b then some c else κ x
theorem b8.add_same(κ:b8)(b c:Nat):κ.add b c b=some c:=by simp[b8.add]
theorem b8.j7(κ:b8){b x:Nat}(c:Nat)(hx:x≠b):κ.add b c x=κ x:=by simp[b8.add,hx]
theorem BV(m:dP aq κ ak s s'):κ.le (κ.add s.n s'.n):=λb c Y=>by
 have:=m.lt b c Y;rw[b8.j7 _ _ D];exact Y
theorem wk(m:dP aq κ ak s s'){o:Obj}{o':hs}(aE:BJ aq ak s'.h (κ.add s.n s'.n) o o')(QR:∀cs e bw,o≠ .cells cs e bw false:=by intro _ _ _ h;cases h):
  jg κ ak s s' (κ.add s.n s'.n) ak (newObj s o) (ah.newObj s' o')∧dP aq (κ.add s.n s'.n) ak (newObj s o) (ah.newObj s' o'):=by
 have dE:∀d,ak d->(s'.h.set s'.n o').get d=s'.h.get d:=λd ai=>aJ.hj _ _ (by have:=m.vh d ai;omega);have Ah:∀d,ak d->ak d:=λ_ h=>h;refine ⟨⟨⟨by simp[newObj],by simp[ah.newObj],λb Y=>b8.j7 _ _ D,λb c J U=>?_,Ah,dE,λ_ h=>.inl h,cg _,λhH sd _ _ U=>U⟩,.inr (by simp[newObj])⟩,
  ⟨λd u4 e J U=>?_,λb c J=>?_,λb a4 c J U=>?_,λd u4 e J U aj=>?_,λc aa=>by have:=m.vh c aa;simp[ah.newObj];omega,by have:=m.ag;simp[newObj,ah.newObj];omega,λg au=>?_,λd cs e bw f J U=>?_⟩⟩
 by_cases Y:b=s.n;subst Y;rw[b8.add_same]at U;cases U;exact cg _;rw[b8.j7 _ _ Y]at U;have:=m.lt b c U;omega;simp only[newObj,ah.newObj]at J ⊢;by_cases ai:d=s.n;subst ai;rw[aJ.jV]at J;cases J;rw[b8.add_same]at U;cases U;exact ⟨o',aJ.jV _ _ _,aE.mono Ah dE (b8.le_refl _)⟩;rw[aJ.hj _ _ ai]at J;rw[b8.j7 _ _ ai]at U;obtain ⟨Gx,aj,aH⟩:=m.obj d u4 e J U;have:=m.lt d e U;exact ⟨Gx,by rw[aJ.hj _ _ D];exact aj,aH.mono Ah dE (BV m)⟩;simp only[newObj,ah.newObj];by_cases Y:b=s.n;subst Y;rw[b8.add_same]at J;cases J;omega;rw[b8.j7 _ _ Y]at J;have:=m.lt b c J;omega;by_cases Y:b=s.n;by_cases ft:a4=s.n;omega;subst Y;rw[b8.add_same]at J;cases J;rw[b8.j7 _ _ ft]at U;have:=m.lt a4 _ U;omega;rw[b8.j7 _ _ Y]at J;by_cases ft:a4=s.n;subst ft;rw[b8.add_same]at U;cases U;have:=m.lt b _ J;omega;rw[b8.j7 _ _ ft]at U;exact m.inj b a4 c J U;simp only[newObj]at J;intro aY;have:=m.vh e aY;by_cases ai:d=s.n;subst ai;rw[b8.add_same]at aj;cases aj;omega;rw[aJ.hj _ _ ai]at J;rw[b8.j7 _ _ ai]at aj;exact m.sep d u4 e J U aj aY;have:=m.lt g g (m.pk g au);rw[b8.j7 _ _ D];exact m.pk g au;simp only[newObj]at J;by_cases ai:d=s.n;subst ai;rw[aJ.jV]at J;cases J;exact absurd rfl (QR _ _ _);rw[aJ.hj _ _ ai]at J;rw[b8.j7 _ _ ai]at U;exact m.gl d cs e bw f J U
theorem SH(m:dP aq κ ak s s'){b o n c:Nat}{l:List V}(E:qh s b o n=some l)(hk:κ b=some c):
  ∃l',o2 s' c o n=some l'∧c2 ak s'.h κ l l':=by
 unfold qh at E;split at E;rename_i cs e bw own Y;split at E;rename_i hle;cases E;obtain ⟨o',J,vs,ja,rfl,U,_⟩:=m.obj b _ c Y hk;unfold o2;rw[J];simp only[<-U.length,hle];exact ⟨_,rfl,(U.drop _).take _⟩;cases E;cases E
theorem Pu{cs:List V}{vs:List Value}{c o n e:Nat}{bw own:Bool}(aa:s'.h.get c=some (.cells vs e bw own))(Z:o+cs.length<=vs.length)
  (E:c2 ak h vu cs ((vs.drop o).take cs.length)) (a5:n<=cs.length):o2 s' c o n=some ((vs.drop o).take n)∧c2 ak h κ (cs.take n) ((vs.drop o).take n):=by
 constructor;unfold o2;rw[aa];have:Nat.ble (o+n) vs.length=true:=by simp[eu];omega
 simp only[this];have:=(E.take n).up (κ:=κ)
 rwa [Hi,ny a5]at this
theorem S9{n:Nat}{cs l:List V}(aO:takeN n cs=some l):n<=cs.length∧l=cs.take n:=by
 unfold takeN at aO;split at aO;rename_i hle;cases aO;exact ⟨by simpa [eu] using hle,rfl⟩;cases aO
theorem acY(m:dP aq κ ak s s'){p:V}{dA:Value}{n:Nat}{l:List V}(E:rd s p n=some l)(al:R ak s'.h κ p dA):
  ∃c o l',dA=.pointer (some ⟨c,o,none⟩)∧o2 s' c o n=some l'∧c2 ak s'.h κ l l':=by
 unfold rd at E;cases al<;>simp only[]at E<;>try (cases E;done)
 rename_i b o c Y;obtain ⟨l',J,U⟩:=SH m E Y;exact ⟨c,o,l',rfl,J,U⟩;rename_i cs c o vs e bw own aY aa Z jM;obtain ⟨J,rfl⟩:=S9 E;obtain ⟨U,aj⟩:=Pu (κ:=κ) aa Z jM J;exact ⟨c,o,_,rfl,U,aj⟩
theorem abv(m:dP aq κ ak s s'){t:cb}{p:V}{dA:Value}{v:V}(E:loadT t s p=some v)(al:R ak s'.h κ p dA):
  ∃a w,dA=.pointer (some a)∧ah.loadT t s' a=some w∧R ak s'.h κ v w:=by
 unfold loadT at E;unfold ah.loadT;cases av:t.isAgg with
 |true=>
  rw[av]at E;simp only[]at E;split at E;rename_i l Z;cases E;obtain ⟨c,o,l',rfl,J,U⟩:=acY m Z al;exact ⟨_,.agg ⟨l'⟩,rfl,by simp only[J],.agg _ _ _ U⟩;cases E
 |false=>
  rw[av]at E;simp only[]at E;split at E;rename_i my l Z;cases E;obtain ⟨c,o,l',rfl,J,U⟩:=acY m Z al;cases U with
  |cons _ _ w _ l' aj _=>exact ⟨_,w,rfl,by simp only[J],aj⟩
  cases E
theorem Tz(m:dP aq κ ak s s'){b o c:Nat}{vs:List V}{ws:List Value}(E:ow s b o vs=some aK)(hk:κ b=some c)(ad:c2 ak s'.h κ vs ws):
  ∃bA,wI s' c o ws=some bA∧jg κ ak s s' κ ak aK bA∧dP aq κ ak aK bA∧aK.ag<=b:=by
 unfold ow at E;split at E;rename_i cs e bw Y;split at E;rename_i hle;cases E;obtain ⟨o',J,us,ja,rfl,U,aj⟩:=m.obj b _ c Y hk;have aH:=aj rfl;subst aH;simp only[dU]at hle;unfold wI;rw[J];simp only[<-U.length,<-ad.length,hle.1,ad.bL hle.2,Bool.and_self];obtain ⟨aB,aT⟩:=GU m Y rfl hk (o:=.cells (gp cs o vs) e bw true) (o':=.cells (ah.gp us o ws) e bw true) ⟨_,true,rfl,U.gp ad o,λ_=>rfl⟩;exact ⟨_,rfl,aB,aT,Nat.min_le_right _ _⟩;cases E;cases E
theorem ar2(m:dP aq κ ak s s'){t:cb}{p v:V}{dA w:Value}(E:storeT t s p v=some aK)(al:R ak s'.h κ p dA)(ad:R ak s'.h κ v w):
  ∃a bA,dA=.pointer (some a)∧ah.storeT t s' a w=some bA∧jg κ ak s s' κ ak aK bA∧dP aq κ ak aK bA:=by
 have Y:v≠ .bad:=by
  rintro rfl;unfold storeT at E;cases p<;>cases E
 have oX:∃b o,p=.ptr b o∧Nat.beq (eJ v).length t.size=true∧ow s b o (eJ v)=some aK:=by
  unfold storeT at E;split at E;cases E;split at E;exact ⟨_,_,rfl,by assumption,E⟩;cases E;cases E
 obtain ⟨b,o,rfl,J,U⟩:=oX;cases al with
 |ptr _ _ _ c hk=>
  have aa:=ad.eJ Y;obtain ⟨bA,aj,aH,bD,_⟩:=Tz m U hk aa;refine ⟨_,bA,rfl,?_,aH,bD⟩;unfold ah.storeT;rw[<-aa.length,J];exact aj
theorem acr{t:cb}{cs:List V}{vs:List Value}{off:Nat}{v:V}(E:part t cs off=some v)(aa:c2 ak h κ cs vs):∃w,ah.part t vs off=some w∧R ak h κ v w:=by
 unfold part at E;unfold ah.part;cases av:t.isAgg with
 |true=>
  rw[av]at E;simp only[]at E;split at E;rename_i hle;cases E;simp only[<-aa.length,hle];exact ⟨_,rfl,.agg _ _ _ ((aa.drop _).take _)⟩;cases E
 |false=>
  rw[av]at E;simp only[]at E;split at E;rename_i my l Z;cases E;have:=aa.drop off;rw[Z]at this;generalize vs.drop off=ws at this ⊢;cases this with
  |cons _ _ w _ l' aj _=>exact ⟨w,rfl,aj⟩
  cases E
inductive r3(ak:Nat->Prop)(h:aJ hs)(κ:b8):List (Nat×V)->List (Nat×Value)->Prop
 |nil:r3 ak h κ [] []
 |cons (i:Nat) (v:V) (w:Value) (l:List (Nat×V)) (l':List (Nat×Value)) (ad:R ak h κ v w) (Z:r3 ak h κ l l'):r3 ak h κ ((i,v)::l) ((i,w)::l')
theorem Po{place:Nat->Option (Nat×Nat)}{ps:List (Nat×V)}{qg:List (Nat×Value)}(al:r3 ak h κ ps qg):∀ {cs l:List V} {vs:List Value},mf place cs ps=some l->c2 ak h κ cs vs->
  ∃l',ah.mf place vs qg=some l'∧c2 ak h κ l l':=by
 induction al with
 |nil=>intro cs l vs E aa;simp only[mf]at E;cases E;exact ⟨vs,rfl,aa⟩
 |cons i v w ps qg ad _ a3=>
  intro cs l vs E aa;unfold mf at E;unfold ah.mf;split at E;cases E;rename_i off size gF;rw[gF];simp only[];split at E;cases E;rename_i Y;split at E;rename_i hle;have aaw:=ad.eJ Y;rw[aaw.length,aa.length]at hle;simp only[hle];exact a3 E (aa.gp aaw off);cases E
theorem c2.cC{z:List V}{mW:List Value}(aY:c2 ak h κ z mW):∀n,c2 ak h κ (cC n z) (ah.cC n mW)
 |0=>.nil _
 |n+1=>aY.append (c2.cC aY n)
theorem c2.ofBytes:∀l:List UInt8,c2 ak h κ (ofBytes l) (ah.ofBytes l)
 |[]=>.nil _
 |_::l=>.cons _ _ _ _ _ (.int _ _ _) (c2.ofBytes l)
theorem Td:∀ {l:List V} {l':List Value} {bs:List UInt8},qQ l=some bs->c2 ak h κ l l'->ah.qQ l'=some bs
 |[],_,_,E,Z=>by cases Z;simpa [qQ,ah.qQ] using E
 |v::l,_,_,E,Z=>by
  cases Z with
  |cons _ _ w _ l' ad Z=>
   unfold qQ at E;split at E;rename_i e;cases e;rename_i n r e;cases e;cases ad;split at E;rename_i bs sh;cases E;have:=Td sh Z;simp only[ah.qQ,this];cases E;cases E
theorem aaO(m:dP aq κ ak s s'){te:cb}{y:V}{dY:Value}{n:Nat}{l:List V}(E:items te s y=some (n,l))(aI:R ak s'.h κ y dY):
  ∃l',ah.items te s' dY=some (n,l')∧c2 ak s'.h κ l l':=by
 unfold items at E;cases aI<;>simp only[]at E<;>try (cases E;done)
 rename_i st;split at E;rename_i aY;cases E;exact ⟨_,by simp only[ah.items,aY],c2.ofBytes _⟩;cases E;cases E;exact ⟨[],rfl,.nil _⟩;rename_i b o apA cap z c Y;split at E;rename_i Df Z;cases E;obtain ⟨l',J,U⟩:=SH m Z Y;exact ⟨l',by simp only[ah.items,J],U⟩;cases E;rename_i cs apA c o cap vs e bw own aY aa Z m8 jM;split at E;rename_i Df aO;cases E;obtain ⟨J,rfl⟩:=S9 aO;obtain ⟨U,aj⟩:=Pu (κ:=κ) aa Z jM J;exact ⟨_,by simp only[ah.items,U],aj⟩;cases E
theorem EA{x:Option V}{rK dflt n:Nat}(E:bound x rK dflt=some n)(ai:dflt<=rK):n<=rK:=by
 unfold bound at E;split at E;cases E;exact ai;split at E;cases E;omega;cases E;cases E
end
end Go.ah.X
