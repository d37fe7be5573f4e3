/-
  A part: lemmas; conditions: those that each names.
-/
import Derived.ChangeKeysEq
import Derived.KernelRfl
import Derived.Test.YtalmddmghdinkaaGreatDoorProg
import Derived.Test.YtalmddmghdinkaaGreatDoorJ
set_option linter.all false
set_option linter.deprecated false
noncomputable section
set_option maxRecDepth 100000
namespace Go.ah
open Go
section
def cG{α:Type} :aJ α:=.leaf
def t1{α:Type}(x:α):aJ α:=.node .leaf (some x) .leaf
def t2{α:Type}(l r:aJ α):aJ α:=.node l none r
def t3{α:Type}(l:aJ α)(x:α)(r:aJ α):aJ α:=.node l (some x) r
def fR:Value:=.int .i64 0
def ch:Value:=.bool false
def bu:Value:=.slice none 0 0
def Bi:Value:=.pointer none
def x4:Value:=.nilFunc
def as9:Value:=.nilIface
def TH:Value:=.map none
def MU:Value:=.string { data:= #[] }
def jC(e:Nat):cb:=⟨.slice e,1,24,bu⟩
def A3(e:Nat):cb:=⟨.pointer e,1,8,Bi⟩
def DJ(k v:Nat):cb:=⟨.map k v,1,8,TH⟩
def qm(k:IntKind)(b:Nat):cb:=⟨.int k,1,b,.int k 0⟩
def bE:cb:=⟨.func,1,8,x4⟩
def asa:cb:=⟨.iface,1,16,as9⟩
def ar9:cb:=⟨.bool,1,1,ch⟩
def S7:cb:=⟨.string,1,16,MU⟩
def J3:Value->Value->Bool
 |.bool a,.bool b=>decide (a=b)
 |.int k a,.int l b=>decide (k=l) && decide (a=b)
 |.string a,.string b=>decide (a.data.toList=b.data.toList)
 |.pointer none,.pointer none=>true
 |.slice none a b,.slice none c d=>decide (a=c) && decide (b=d)
 |.map none,.map none=>true
 |.nilFunc,.nilFunc=>true
 |.nilIface,.nilIface=>true
 |_,_=>false
theorem X6{a b:Value}(h:J3 a b=true):a=b:=by
 unfold J3 at h;split at h<;>try simp only[dU,decide_eq_true_eq]at h
 rw[h];rw[h.1,h.2];rename_i a b;obtain ⟨⟨a⟩⟩:=a;obtain ⟨⟨b⟩⟩:=b;simp only at h;rw[h];rfl;rw[h.1,h.2];rfl;rfl;rfl;cases h
def J2:List Value->List Value->Bool
 |[],[]=>true
 |a::l,b::l'=>J3 a b && J2 l l'
 |_,_=>false
theorem X5:∀ {a b:List Value},J2 a b=true->a=b
 |[],[],_=>rfl
 |[],_::_,h=>by cases h
 |_::_,[],h=>by cases h
 |a::l,b::l',h=>by
  simp only[J2,dU]at h;rw[X6 h.1,X5 h.2]
def Ph:Value->Value->Bool
 |.agg ⟨l⟩,.agg ⟨l'⟩=>J2 l l'
 |a,b=>J3 a b
theorem ajF{a b:Value}(h:Ph a b=true):a=b:=by
 unfold Ph at h;split at h;rw[X5 h];exact X6 h
def RN:Jn->TypeDesc->Bool
 |.int k,.int k'=>decide (k=k')
 |.bool,.bool=>true
 |.string,.string=>true
 |.slice e,.slice aZ=>decide (e=aZ)
 |.array n e,.array jl aZ=>decide (n=jl) && decide (e=aZ)
 |.struct ew,.struct fields=>decide (ew=fields.toList.map λf=>(f.type,f.offset))
 |.pointer e,.pointer aZ=>decide (e=aZ)
 |.map k v,.map k' v'=>decide (k=k') && decide (v=v')
 |.func,.func _ _ _=>true
 |.iface,.interface _=>true
 |_,_=>false
theorem aba{k:Jn}{d:TypeDesc}(h:RN k d=true):kindOk k d:=by
 unfold RN at h;split at h<;>(try simp only[dU,decide_eq_true_eq]at h)<;>first|exact h|trivial|cases h
section
variable {P:Program}{xs kx:List Int}(aj:P.underlying 3=some (.int .i64))
theorem xe{l:List Int}{k:Nat}{a:Int}(h:l[k]? =some a):l.drop k=a::l.drop (k+1):=by
 obtain ⟨hk,rfl⟩:=nX.1 h;exact (List.getElem_cons_drop hk).symm
include aj in
theorem Mn(w:World){k:Nat}{a:Int}(h:xs[k]? =some a):(Go.part 3 ⟨xs.map (Value.int .i64)⟩ k).run P w=.ok (.int .i64 a) w:=
 run_part_plain w (by unfold Program.plainKey;rw[aj]) (by show (⟨xs.map (Value.int .i64)⟩:Array Value)[k]? =_;rw[List.getElem?_toArray,Bu,h];rfl)
include aj in
theorem ac7:∀(ew:List Field) (k:Nat) (w:World),(∀f,f∈ew->f.name≠ "_")->Lw (ew.map λf=>(f.type,f.offset)) k=true->xs.length=k+ew.length->kx.length=k+ew.length->
  (Op.eqFields 9999 ⟨xs.map (Value.int .i64)⟩ ⟨kx.map (Value.int .i64)⟩ ew).run P w=.ok (decide (xs.drop k=kx.drop k)) w
 |[],k,w,_,_,hx,aI=>by
  rw[MZ (by simp at hx;omega),MZ (by simp at aI;omega)];simp[Op.eqFields]
 |f::ew,k,w,a5,hi,hx,aI=>by
  simp only[jE,Lw,dU,qV]at hi;obtain ⟨aC,ba,hi⟩:=hi;simp only[qW]at hx aI;have a3:=ac7 ew (k+1) w (λg au=>a5 g (lG _ au)) hi D D;have b1:=mA (l:=xs) (i:=k) D;have cq:=mA (l:=kx) (i:=k) D;generalize xs[k]'D=a at b1;generalize kx[k]'D=b at cq;rw[xe b1,xe cq];unfold Op.eqFields;rw[if_pos (a5 f (j5 ..)),aC,ba];simp only[Sem.run_bind,Mn aj w b1,Mn aj w cq,Result.andThen_ok,run_equalIn_int w 9998 3 .i64 .i64 _ _ aj];by_cases lr:a=b;simp[lr,a3];simp[lr]
include aj in
theorem ac8:∀(m k:Nat) (w:World),xs.length=k+m->kx.length=k+m->(Op.eqItems 9999 3 1 ⟨xs.map (Value.int .i64)⟩ ⟨kx.map (Value.int .i64)⟩ (List.range' k m)).run P w=.ok (decide (xs.drop k=kx.drop k)) w
 |0,k,w,hx,aI=>by
  rw[MZ D,MZ D];simp[Op.eqItems]
 |m+1,k,w,hx,aI=>by
  have a3:=ac8 m (k+1) w D D;have b1:=mA (l:=xs) (i:=k) D;have cq:=mA (l:=kx) (i:=k) D;generalize xs[k]'D=a at b1;generalize kx[k]'D=b at cq;rw[xe b1,xe cq,Hj];unfold Op.eqItems;rw[ox];simp only[Sem.run_bind,Mn aj w b1,Mn aj w cq,Result.andThen_ok,run_equalIn_int w 9998 3 .i64 .i64 _ _ aj];by_cases lr:a=b;simp[lr,a3];simp[lr]
end
def xf(P:Program)(t:Nat):Bool:=
 (match P.underlying 3,P.info? 3 with
 |some (.int .i64),some i=>Nat.beq i.size 1
 |_,_=>false) && !(P.eqGuardType P.depth t) && (match P.underlying t with
 |some (.struct fields)=> !(P.stoodInHeld t) && fields.toList.all λf=>f.name != "_"
 |some (.array _ _)=>true
 |_=>false)
theorem ajG{P:Program}{t:Nat}{ti:cb}{d:TypeDesc}(hu:P.underlying t=some d)(hk:kindOk ti.kind d)(he:ti.E0=true)(Y:xf P t=true):
  P.eqGuardType P.depth t=false∧ ∀(xs kx:List Int) (w:World),xs.length=ti.size->kx.length=ti.size->(Op.equalIn 10000 t (.agg ⟨xs.map (Value.int .i64)⟩) (.agg ⟨kx.map (Value.int .i64)⟩)).run P w=.ok (decide (xs=kx)) w:=by
 unfold xf at Y;simp only[dU,Bl]at Y;obtain ⟨⟨J,U⟩,aH⟩:=Y;refine ⟨U,λxs kx w hx aI=>?_⟩;split at J
 rotate_left
 cases J;rename_i i aj hi;rw[qV]at J;unfold cb.E0 at he;rw[hu]at aH;split at he;rename_i ew aM;rw[aM]at hk;cases d<;>simp only[kindOk]at hk<;>first|(cases hk;done)|skip
 rename_i fields;simp only[dU,Bl,qV]at aH he;have ZG:P.fieldsOf t=fields:=by unfold Program.fieldsOf;rw[hu]
 have:=run_equalIn_struct w 9999 t ⟨xs.map (Value.int .i64)⟩ ⟨kx.map (Value.int .i64)⟩ (by rw[ZG];exact hu) aH.1;rw[ZG]at this;refine this.trans ?_;have Z:ew.length=fields.toList.length:=by rw[hk,qY]
 exact ac7 aj fields.toList 0 w (λf aM=>by simpa using fj.1 aH.2 f aM) (by rw[<-hk];exact he.1) D D;rename_i n e aM;rw[aM]at hk;cases d<;>simp only[kindOk]at hk<;>first|(cases hk;done)|skip
 simp only[dU,qV]at he;obtain ⟨rfl,rfl⟩:=hk;obtain ⟨rfl,ba⟩:=he;have:=run_equalIn_array w 9999 ⟨xs.map (Value.int .i64)⟩ ⟨kx.map (Value.int .i64)⟩ hu hi;rw[show P.cellsOf 3=1 by simp[Program.cellsOf,hi,J],List.range_eq_range']at this;exact this.trans (ac8 aj n 0 w D D);cases he
def Tl(P:Program)(t:Nat)(ti:cb):Bool:=
 match P.info? t,P.underlying t with
 |some i,some d=>decide (i.size=ti.size) && decide (i.bytes=ti.bytes) && (match i.zero with
  |some z=>Ph z ti.zero
  |none=>false) && RN ti.kind d && tN ti.zero && decide ((eJ ti.zero).length=ti.size) && (match ti.kind with
  |.struct ew=>ew.all λx=>(P.info? x.1).isSome
  |_=>true) && (match ti.E0 with
  |true=>xf P t
  |false=>true)
 |_,_=>false
theorem asv{P:Program}{t:Nat}{ti:cb}(h:Tl P t ti=true):k0 P t ti:=by
 unfold Tl at h;split at h;rename_i i d hi ai;simp only[dU,decide_eq_true_eq]at h;obtain ⟨⟨⟨⟨⟨⟨⟨J,U⟩,aj⟩,aH⟩,bD⟩,cF⟩,dV⟩,fL⟩:=h;split at aj;rename_i z aY;refine ⟨⟨i,hi,J,U,by rw[aY,ajF aj]⟩,⟨d,ai,aba aH⟩,bD,cF,λew aM x hx=>?_,λhe=>ajG ai (aba aH) he (by rw[he]at fL;exact fL)⟩;rw[aM]at dV;exact fj.1 dV x hx;cases aj;cases h
def Et{α:Type}(p:Nat->α->Bool):aJ α->Nat->Nat->Bool
 |.leaf,_,_=>true
 |.node l v r,m,a=>(match v with
  |some x=>p a x
  |none=>true) && Et p l (2*m) (m+a) && Et p r (2*m) (2*m+a)
theorem ahg{α:Type}{p:Nat->α->Bool} :∀ {t:aJ α} {m a j:Nat} {x:α},Et p t m a=true->t.get j=some x->p (m*j+a) x=true:=by
 intro t
 induction t with
 |leaf=>intro m a j x _ h;rw[aJ.tb]at h;cases h
 |node l v r RB RC=>
  intro m a j x h au;simp only[Et,dU]at h;rw[aJ.yz]at au;cases j with
  |zero=>
   simp only[]at au;subst au;simpa using h.1.1
  |succ k=>
   simp only[]at au;have ba:2*m*(k / 2)=m*(2*(k / 2)):=by rw[Nat.mul_comm 2 m,Nat.mul_assoc]
   cases Y:Nat.beq (k % 2) 0 with
   |true=>
    rw[Y]at au;have:=RB h.1.2 au;have U:k % 2=0:=kj Y;have aj:2*(k / 2)=k:=D;rw[ba,aj]at this
    rwa [Nat.mul_succ,pL]
   |false=>
    rw[Y]at au;have:=RC h.2 au;have U:k % 2≠0:=λe=>by rw[e]at Y;cases Y
    have aj:2*(k / 2)+1=k:=D;have aH:m*(k+1)+a=2*m*(k / 2)+(2*m+a):=by
     rw[ba,<-aj,Nat.mul_succ,Nat.mul_succ];have:2*(2*(k / 2)+1) / 2=2*(k / 2)+1:=D;have bD:(2*(k / 2)+1) / 2=k / 2:=D;rw[bD];omega
    rwa [aH]
theorem asd{P:Program}{T:Types}(h:Et (Tl P) T 1 0=true):iF P T:=λt ti aO=>by
 have:=ahg h aO;rw[Nat.one_mul,zs]at this;exact asv this
def s7(aq:Nat)(fn:Func):Bool:= !(fn.name == "runtime.NumGoroutine") && match fn.body with
 |some c=>codeOk aq c
 |none=>true
def Gq(ok:Func->Bool):aJ Func->Nat->List Func->aJ Func
 |t,_,[]=>t
 |t,i,x::xs=>Gq ok (match ok x with
  |true=>t.set i x
  |false=>t) (i+1) xs
theorem R0(ok:Func->Bool):∀(xs:List Func) (t:aJ Func) (i j:Nat),(∀k,i<=k->t.get k=none)->(Gq ok t i xs).get j=if j<i then t.get j else (xs[j - i]?).bind λx=>match ok x with
  |true=>some x
  |false=>none
 |[],t,i,j,h=>by
  unfold Gq;split;rfl;rw[h j D];simp
 |x::xs,t,i,j,h=>by
  unfold Gq;cases hx:ok x with
  |true=>
   simp only[];rw[R0 ok xs (t.set i x) (i+1) j (λk hk=>by rw[aJ.tc,if_neg D];exact h k D)];by_cases J:j=i;subst J;rw[if_pos D,aJ.tc,if_pos rfl,if_neg D,Nat.sub_self];simp[hx];by_cases U:j<i;rw[if_pos D,if_pos U,aJ.tc,if_neg J];rw[if_neg D,if_neg U,show j - i=(j - (i+1))+1 by omega];simp
  |false=>
   simp only[];rw[R0 ok xs t (i+1) j (λk hk=>h k D)];by_cases J:j=i;subst J;rw[if_pos D,if_neg D,Nat.sub_self,h j (cg _)];simp[hx];by_cases U:j<i;rw[if_pos D,if_pos U];rw[if_neg D,if_neg U,show j - i=(j - (i+1))+1 by omega];simp
def E7(aq:Nat)(P:Program):aJ Func:=Gq (s7 aq) .leaf 0 P.funcs.toList
theorem Yo(aq:Nat)(P:Program)(f:Nat):(E7 aq P).get f=(P.funcs[f]?).bind λx=>match s7 aq x with
  |true=>some x
  |false=>none:=by
 unfold E7;rw[R0 _ _ _ _ _ (λk _=>aJ.tb k),if_neg D,Nat.sub_zero,Array.getElem?_toList]
theorem aj7{aq:Nat}{P:Program}{f:Nat}{fn:Func}(h:P.funcs[f]? =some fn)(h':s7 aq fn=true):(E7 aq P).get f=some fn:=by
 rw[Yo,h];simp[h']
theorem akp(aq:Nat)(P:Program):yf aq P (E7 aq P):=λf fn h=>by
 rw[Yo]at h;cases aM:P.funcs[f]? with
 |none=>rw[aM]at h;cases h
 |some x=>
  rw[aM]at h;simp only[Option.bind_some]at h;split at h;rename_i hx;cases h;unfold s7 at hx;rw[dU,Bl]at hx;refine ⟨rfl,hx.1,λc aa=>?_⟩;have:=hx.2;rw[aa]at this;exact this;cases h
end
end Go.ah
namespace Go.ah.X
open Go Go.ah
section
variable {O:bo}{G:aJ Func}{T:Types}{f:Nat}{fn:Func}
def yl(F:bt->Nat->S->ax):Fn:=λc n l s=>match l with
 |[]=>F c n s
 |_=>none
theorem bz.yl{F:bt->Nat->S->ax}(fv:O f=none)(aM:G.get f=some fn)(h:∀c n s,F c n s=oP (dT f) c T n fn [] s):bz O G T f (yl F):=bz.den fv aM λc n l s r e=>by
 unfold X.yl at e;split at e;rw[h]at e;exact e;cases e
def cN(F:bt->Nat->V->S->ax):Fn:=λc n l s=>match l with
 |[fC]=>F c n fC s
 |_=>none
theorem bz.cN{F:bt->Nat->V->S->ax}(fv:O f=none)(aM:G.get f=some fn)(h:∀c n fC s,F c n fC s=oP (dT f) c T n fn [fC] s):bz O G T f (cN F):=bz.den fv aM λc n l s r e=>by
 unfold X.cN at e;split at e;rw[h]at e;exact e;cases e
def bh(F:bt->Nat->V->V->S->ax):Fn:=λc n l s=>match l with
 |[fC,b1]=>F c n fC b1 s
 |_=>none
theorem bz.bh{F:bt->Nat->V->V->S->ax}(fv:O f=none)(aM:G.get f=some fn)(h:∀c n fC b1 s,F c n fC b1 s=oP (dT f) c T n fn [fC,b1] s):bz O G T f (bh F):=bz.den fv aM λc n l s r e=>by
 unfold X.bh at e;split at e;rw[h]at e;exact e;cases e
def hA(F:bt->Nat->V->V->V->S->ax):Fn:=λc n l s=>match l with
 |[fC,b1,cq]=>F c n fC b1 cq s
 |_=>none
theorem bz.hA{F:bt->Nat->V->V->V->S->ax}(fv:O f=none)(aM:G.get f=some fn)(h:∀c n fC b1 cq s,F c n fC b1 cq s=oP (dT f) c T n fn [fC,b1,cq] s):bz O G T f (hA F):=bz.den fv aM λc n l s r e=>by
 unfold X.hA at e;split at e;rw[h]at e;exact e;cases e
def qw(F:bt->Nat->V->V->V->V->S->ax):Fn:=λc n l s=>match l with
 |[fC,b1,cq,cV]=>F c n fC b1 cq cV s
 |_=>none
theorem bz.qw{F:bt->Nat->V->V->V->V->S->ax}(fv:O f=none)(aM:G.get f=some fn)(h:∀c n fC b1 cq cV s,F c n fC b1 cq cV s=oP (dT f) c T n fn [fC,b1,cq,cV] s):bz O G T f (qw F):=bz.den fv aM λc n l s r e=>by
 unfold X.qw at e;split at e;rw[h]at e;exact e;cases e
def vz(F:bt->Nat->V->V->V->V->V->S->ax):Fn:=λc n l s=>match l with
 |[fC,b1,cq,cV,dn]=>F c n fC b1 cq cV dn s
 |_=>none
theorem bz.vz{F:bt->Nat->V->V->V->V->V->S->ax}(fv:O f=none)(aM:G.get f=some fn)(h:∀c n fC b1 cq cV dn s,F c n fC b1 cq cV dn s=oP (dT f) c T n fn [fC,b1,cq,cV,dn] s):bz O G T f (vz F):=bz.den fv aM λc n l s r e=>by
 unfold X.vz at e;split at e;rw[h]at e;exact e;cases e
def uk(F:bt->Nat->V->V->V->V->V->V->S->ax):Fn:=λc n l s=>match l with
 |[fC,b1,cq,cV,dn,ui]=>F c n fC b1 cq cV dn ui s
 |_=>none
theorem bz.uk{F:bt->Nat->V->V->V->V->V->V->S->ax}(fv:O f=none)(aM:G.get f=some fn)(h:∀c n fC b1 cq cV dn ui s,F c n fC b1 cq cV dn ui s=oP (dT f) c T n fn [fC,b1,cq,cV,dn,ui] s):bz O G T f (uk F):=bz.den fv aM λc n l s r e=>by
 unfold X.uk at e;split at e;rw[h]at e;exact e;cases e
theorem aB{F:Fn}{g:Nat->Nat}(h:bz O G T (g 0) F):pc O G T (t1 F) g:=.node _ _ _ _ (λEe e=>by cases e;exact h) (.leaf _) (.leaf _)
theorem aT{l r:aJ Fn}{g:Nat->Nat}(Z:pc O G T l (λj=>g (2*j+1)))(E:pc O G T r (λj=>g (2*j+2))):pc O G T (t2 l r) g:=.node _ _ _ _ (λEe e=>by cases e) Z E
theorem bp{l r:aJ Fn}{F:Fn}{g:Nat->Nat}(Z:pc O G T l (λj=>g (2*j+1)))(h:bz O G T (g 0) F)(E:pc O G T r (λj=>g (2*j+2))):pc O G T (t3 l F r) g:=.node _ _ _ _ (λEe e=>by cases e;exact h) Z E
end
end Go.ah.X
namespace Go
theorem aA{p:Prop}(h:p:=by kernel_rfl):p:=h
end Go
namespace Go.Proofs.dI
open Go Go.ah Go.Proofs
def g3:cb:=qm .i64 8
def A5:cb:=ar9
def x0:cb:=qm .u8 1
def zl:cb:=jC 3
def A6:cb:=⟨.struct [(43,0),(43,2)],4,64,.agg ⟨[ch,bu,ch,bu]⟩⟩
def qR:cb:=⟨.struct [(47,0),(47,8)],16,256,.agg ⟨[ch,bu,ch,bu,ch,bu,ch,bu,ch,bu,ch,bu,ch,bu,ch,bu]⟩⟩
def G5:cb:=⟨.struct [(83,0),(47,1),(86,9),(45,10),(45,14)],18,304,.agg ⟨[bu,ch,bu,ch,bu,ch,bu,ch,bu,bu,ch,bu,ch,bu,ch,bu,ch,bu]⟩⟩
def MF:cb:=⟨.struct [(3,0),(3,1),(3,2)],3,24,.agg ⟨cC 3 [fR]⟩⟩
def adY:cb:=⟨.struct [(3,0),(3,1),(47,2),(47,10),(95,18),(45,19)],23,360,.agg ⟨[fR,fR,ch,bu,ch,bu,ch,bu,ch,bu,ch,bu,ch,bu,ch,bu,ch,bu,bu,ch,bu,ch,bu]⟩⟩
def Th:cb:=⟨.array 2 3,2,16,.agg ⟨[fR,fR]⟩⟩
def DM:cb:=⟨.struct [(47,0),(47,8)],16,256,.agg ⟨[ch,bu,ch,bu,ch,bu,ch,bu,ch,bu,ch,bu,ch,bu,ch,bu]⟩⟩
def G4:cb:=⟨.struct [(45,0),(45,4),(4,8),(45,9),(45,13)],17,264,.agg ⟨[ch,bu,ch,bu,ch,bu,ch,bu,ch,ch,bu,ch,bu,ch,bu,ch,bu]⟩⟩
def Ti:cb:=⟨.struct [(3,0),(45,1),(45,5),(45,9)],13,200,.agg ⟨[fR,ch,bu,ch,bu,ch,bu,ch,bu,ch,bu,ch,bu]⟩⟩
def Tj:cb:=⟨.struct [(94,0),(3,3)],4,32,.agg ⟨cC 4 [fR]⟩⟩
def types:Types:=
 (t2 (t3 (t3 (t3 (t3 (t3 (t3 (t3 (t1 ⟨.struct [(3,0),(3,1),(3,2),(3,3),(45,4),(254,8),(254,9),(45,10),(45,14)],18,272,.agg ⟨[fR,fR,fR,fR,ch,bu,ch,bu,bu,bu,
 ch,bu,ch,bu,ch,bu,ch,bu]⟩⟩) bE cG) bE cG) (jC 4) (t3 (t3 (t1 bE) (jC 162) cG) (jC 94) (t3 (t1 bE) (jC 389) cG))) (A3 494) (t3 (t3 (t3 (t1 bE) bE cG) bE (t3 cG bE (t1 bE))) ⟨.struct
 [(45,0),(45,4)],8,128,.agg ⟨[ch,bu,ch,bu,ch,bu,ch,bu]⟩⟩ (t3 (t2 (t1 bE) cG) bE (t3 cG bE (t1 ⟨.array 0 16,0,0,.agg ⟨[]⟩⟩))))) ⟨.struct [(2,0),(3,1),(4,2),(6,3)],
 4,24,.agg ⟨[fR,fR,ch,.int .u8 0]⟩⟩ (t3 (t3 (t3 (t3 (t2 (t1 bE) cG) bE cG) bE (t3 (t1 ⟨.struct [(326,0)],1,24,.agg ⟨[bu]⟩⟩) ⟨.array 2 45,8,128,.agg ⟨[ch,bu,ch,bu,ch,
 bu,ch,bu]⟩⟩ (t1 bE))) bE (t3 (t1 ⟨.struct [(33,0),(30,4),(30,5)],6,128,.agg ⟨[fR,bu,bu,bu,bu,bu]⟩⟩) bE (t2 (t1 (DJ 3 22)) cG))) (jC 130) (t3 (t3 (t3 (t1 bE) bE cG) ⟨.struct
 [(83,0),(47,1),(86,9),(45,10),(45,14)],18,304,.agg ⟨[bu,ch,bu,ch,bu,ch,bu,ch,bu,bu,ch,bu,ch,bu,ch,bu,ch,bu]⟩⟩ (t3 (t1 bE) bE cG)) ⟨.struct [(3,0),(3,
 1),(3,2),(22,3),(53,4)],5,72,.agg ⟨[fR,fR,fR,bu,bu]⟩⟩ (t3 (t3 (t1 bE) bE cG) bE (t3 cG bE (t1 (qm .i32 4))))))) g3 (t3 (t3 (t3 (t3 (t3 (t2 (t1 (DJ 3 45)) cG) ⟨.struct
 [(3,0),(45,1),(45,5),(45,9)],13,200,.agg ⟨[fR,ch,bu,ch,bu,ch,bu,ch,bu,ch,bu,ch,bu]⟩⟩ cG) bE (t3 cG bE (t1 bE))) (jC 49) (t3 (t3 (t1 bE) bE cG) adY (t3 (t1 bE)
 bE cG))) ⟨.struct [(17,0)],1,8,.agg ⟨[Bi]⟩⟩ (t3 (t3 (t3 (t1 bE) bE (t1 bE)) (jC 82) (t3 (t1 bE) bE cG)) (jC 37) (t3 (t2 (t1 bE) cG) bE (t3 cG bE (t1 (qm .u8 1)))))) S7 (t3 (t3 (t3
 (t1 bE) bE (t3 cG ⟨.struct [(200,0),(201,1)],2,16,.agg ⟨[x4,x4]⟩⟩ (t1 bE))) ⟨.struct [(4,0),(22,1)],2,32,.agg ⟨[ch,bu]⟩⟩ (t3 cG bE (t3 (t1 ⟨.struct [(22,0),(222,1)],
 2,48,.agg ⟨[bu,bu]⟩⟩) bE cG))) ⟨.struct [(23,0),(24,1),(25,2),(26,3)],4,96,.agg ⟨cC 4 [bu]⟩⟩ (t2 (t3 (t3 (t1 bE) bE cG) bE (t3 (t1 bE) (jC 225) cG)) (t3 (t3 (t1 bE) bE
 cG) bE (t1 ⟨.struct [(28,0),(33,4),(30,8),(250,9)],10,208,.agg ⟨[bu,bu,bu,bu,fR,bu,bu,bu,bu,TH]⟩⟩)))))) bE (t3 (t3 (t3 (t3 (t3 (t1 ⟨.struct [(45,0),(45,4),(4,
 8),(45,9),(45,13)],17,264,.agg ⟨[ch,bu,ch,bu,ch,bu,ch,bu,ch,ch,bu,ch,bu,ch,bu,ch,bu]⟩⟩) bE (t3 cG bE (t1 ⟨.struct [(45,0),(45,4),(45,8)],12,192,.agg ⟨[ch,
 bu,ch,bu,ch,bu,ch,bu,ch,bu,ch,bu]⟩⟩))) ⟨.struct [(3,0),(30,1),(30,2),(31,3)],4,80,.agg ⟨[fR,bu,bu,bu]⟩⟩ (t3 (t3 (t1 bE) ⟨.struct [(108,0)],16,256,.agg ⟨[ch,
 bu,ch,bu,ch,bu,ch,bu,ch,bu,ch,bu,ch,bu,ch,bu]⟩⟩ cG) bE (t1 ⟨.struct [(3,0),(22,1),(222,2),(223,3),(30,4),(45,5)],9,168,.agg ⟨[fR,bu,bu,bu,bu,ch,bu,
 ch,bu]⟩⟩))) (A3 506) (t3 (t3 (t3 (t1 ⟨.struct [(28,0),(33,4)],8,176,.agg ⟨[bu,bu,bu,bu,fR,bu,bu,bu]⟩⟩) bE cG) ⟨.struct [(3,0),(3,1)],2,16,.agg ⟨[fR,fR]⟩⟩ (t2 cG
 (t1 (A3 468)))) qR (t3 (t3 (t1 bE) bE cG) bE (t3 cG bE (t1 ⟨.struct [(495,0)],0,0,.agg ⟨[]⟩⟩))))) S7 (t3 (t3 (t3 (t3 (t1 bE) bE cG) bE (t3 (t1 ⟨.struct [(3,0),(30,1)],2,32,.agg
 ⟨[fR,bu]⟩⟩) bE (t1 bE))) (qm .u64 8) (t3 (t3 (t1 bE) bE cG) bE cG)) (jC 99) (t3 (t2 (t3 (t1 bE) bE cG) (t3 (t1 (qm .i64 8)) (A3 162) cG)) bE (t3 (t3 (t1 bE) bE cG) bE (t3 (t1 (jC 386))
 bE cG))))) x0 (t3 (t3 (t3 (t3 (t3 cG bE (t1 ⟨.struct [(45,0),(45,4)],8,128,.agg ⟨[ch,bu,ch,bu,ch,bu,ch,bu]⟩⟩)) bE (t2 (t1 bE) (t1 bE))) ⟨.struct [(3,0),(3,1),(3,2),
 (22,3),(35,4)],5,72,.agg ⟨[fR,fR,fR,bu,bu]⟩⟩ (t3 (t3 (t1 bE) bE (t1 ⟨.struct [],0,0,.agg ⟨[]⟩⟩)) bE (t3 cG bE (t1 bE)))) (qm .i32 4) (t3 (t3 (t3 (t1 bE) bE (t1 (qm .u64
 8))) bE (t3 (t1 bE) bE (t1 bE))) (jC 108) (t3 (t1 bE) bE (t3 cG bE (t1 bE))))) ⟨.struct [(9,0),(12,1)],2,24,.agg ⟨[MU,.int .u64 0]⟩⟩ (t3 (t3 (t3 (t1 (jC 190)) (jC 70) (t3 (t1
 (jC 30)) bE (t1 bE))) A6 (t3 (t3 (t1 bE) bE cG) bE (t1 bE))) bE (t2 (t3 (t2 (t1 bE) cG) ⟨.struct [(3,0),(3,1),(3,2)],3,24,.agg ⟨cC 3 [fR]⟩⟩ (t3 (t1 bE) bE cG)) (t2 (t3 (t1
 ⟨.struct [(315,0),(277,1)],2,16,.agg ⟨[x4,x4]⟩⟩) ⟨.struct [(94,0),(3,3)],4,32,.agg ⟨cC 4 [fR]⟩⟩ cG) (t1 bE))))))) (t3 (t3 (t3 (t3 (t3 (t3 (t3 (t1 ⟨.struct [(3,0),(3,
 1),(3,2),(3,3),(45,4),(254,8),(254,9),(45,10),(45,14)],18,272,.agg ⟨[fR,fR,fR,fR,ch,bu,ch,bu,bu,bu,ch,bu,ch,bu,ch,bu,ch,bu]⟩⟩) bE cG) bE (t3 (t1 ⟨.struct
 [(3,0),(45,1)],5,72,.agg ⟨[fR,ch,bu,ch,bu]⟩⟩) bE cG)) ⟨.struct [(3,0),(30,1),(30,2),(31,3)],4,80,.agg ⟨[fR,bu,bu,bu]⟩⟩ (t3 (t3 (t1 (jC 22)) (jC 163) (t1 (jC 254)))
 bE (t3 (t1 (qm .u32 4)) ⟨.struct [(3,0),(22,1),(222,2),(223,3),(30,4),(45,5)],9,168,.agg ⟨[fR,bu,bu,bu,bu,ch,bu,ch,bu]⟩⟩ cG))) (A3 497) (t3 (t3 (t2 (t1 bE) cG)
 bE (t3 (t1 bE) bE cG)) ⟨.struct [(47,0),(47,8)],16,256,.agg ⟨[ch,bu,ch,bu,ch,bu,ch,bu,ch,bu,ch,bu,ch,bu,ch,bu]⟩⟩ (t3 (t3 (t1 (DJ 100 4)) bE cG) bE (t1 bE)))) ⟨.struct
 [(2,0),(3,1),(4,2),(6,3)],4,24,.agg ⟨[fR,fR,ch,.int .u8 0]⟩⟩ (t3 (t3 (t3 (t1 bE) bE (t3 (t1 ⟨.struct [(326,0)],1,24,.agg ⟨[bu]⟩⟩) bE (t1 bE))) bE (t3 (t1 ⟨.struct [(33,
 0),(30,4),(30,5)],6,128,.agg ⟨[fR,bu,bu,bu,bu,bu]⟩⟩) bE (t1 bE))) (jC 88) (t3 (t3 (t3 (t1 bE) bE cG) G5 (t3 (t1 bE) bE cG)) bE (t3 (t3 (t1 bE) bE cG) bE (t3 cG bE (t1
 (qm .i32 4))))))) A5 (t3 (t3 (t3 (t3 (t1 Ti) bE (t3 (t1 bE) bE (t1 bE))) ⟨.struct [(3,0),(3,1),(3,2),(22,3),(35,4)],5,72,.agg ⟨[fR,fR,fR,bu,bu]⟩⟩ (t3 (t3 (t1 (jC
 222)) bE (t1 bE)) Th cG)) asa (t3 (t3 (t2 (t1 bE) cG) bE (t3 (t1 bE) (jC 203) (t1 ⟨.struct [(3,0),(3,1),(3,2),(333,3),(30,4),(22,5)],6,96,.agg ⟨[fR,fR,fR,bu,bu,
 bu]⟩⟩))) bE (t3 (t3 (t1 bE) bE cG) bE (t3 cG bE (t1 (qm .u8 1)))))) (qm .u64 8) (t3 (t3 (t3 (t3 (t1 bE) bE cG) bE (t3 cG ⟨.array 2 203,4,32,.agg ⟨cC 4 [x4]⟩⟩ (t1 bE))) ⟨.struct
 [(43,0),(43,2)],4,64,.agg ⟨[ch,bu,ch,bu]⟩⟩ (t3 (t3 (t1 (jC 45)) bE cG) DM (t1 bE))) ⟨.struct [(23,0),(24,1),(25,2),(26,3)],4,96,.agg ⟨cC 4 [bu]⟩⟩ (t3 (t3 (t3
 (t1 bE) bE cG) bE (t2 (t1 bE) cG)) bE (t3 (t1 bE) ⟨.array 4 45,16,256,.agg ⟨[ch,bu,ch,bu,ch,bu,ch,bu,ch,bu,ch,bu,ch,bu,ch,bu]⟩⟩ (t1 ⟨.struct [(28,0),(33,4),(30,
 8),(250,9)],10,208,.agg ⟨[bu,bu,bu,bu,fR,bu,bu,bu,bu,TH]⟩⟩)))))) (qm .i64 8) (t3 (t3 (t3 (t3 (t3 (t3 (t1 ⟨.struct [(3,0),(3,1),(3,2),(3,3)],4,32,.agg ⟨cC 4
 [fR]⟩⟩) G4 (t1 ⟨.struct [(3,0),(3,1)],2,16,.agg ⟨[fR,fR]⟩⟩)) bE (t3 cG bE (t1 bE))) bE (t3 (t3 (t1 bE) ⟨.struct [(108,0)],16,256,.agg ⟨[ch,bu,ch,bu,ch,bu,ch,bu,
 ch,bu,ch,bu,ch,bu,ch,bu]⟩⟩ cG) ⟨.struct [(3,0),(3,1),(47,2),(47,10),(95,18),(45,19)],23,360,.agg ⟨[fR,fR,ch,bu,ch,bu,ch,bu,ch,bu,ch,bu,ch,bu,ch,bu,
 ch,bu,bu,ch,bu,ch,bu]⟩⟩ (t1 (qm .u64 8)))) ⟨.struct [(17,0)],1,8,.agg ⟨[Bi]⟩⟩ (t3 (t3 (t3 (t1 ⟨.struct [(28,0),(33,4)],8,176,.agg ⟨[bu,bu,bu,bu,fR,bu,bu,bu]⟩⟩)
 bE (t1 bE)) ⟨.struct [(3,0),(3,1)],2,16,.agg ⟨[fR,fR]⟩⟩ (t3 (t1 bE) bE cG)) bE (t3 (t3 (t1 bE) bE cG) bE (t1 bE)))) S7 (t3 (t3 (t2 (t3 (t1 bE) bE cG) (t3 (t1 ⟨.struct [(3,0),
 (30,1)],2,32,.agg ⟨[fR,bu]⟩⟩) ⟨.struct [(200,0),(201,1)],2,16,.agg ⟨[x4,x4]⟩⟩ (t1 bE))) ⟨.struct [(4,0),(22,1)],2,32,.agg ⟨[ch,bu]⟩⟩ (t3 (t3 (t1 bE) bE cG) bE (t3
 (t1 ⟨.struct [(22,0),(222,1)],2,48,.agg ⟨[bu,bu]⟩⟩) bE cG))) (jC 100) (t3 (t3 (t1 bE) bE (t1 bE)) (qm .i64 8) (t2 (t3 (t1 bE) bE cG) (t3 (t1 bE) (DJ 258 4) (t1 ⟨.struct [(12,
 0),(12,1),(352,2),(499,3),(5,4),(5,5),(500,6),(501,7),(502,8),(503,9),(504,10)],11,48,.agg ⟨[.int .u64 0,.int .u64 0,.int .u32 0,.int .u8 0,.int .u8 0,.int .u8
 0,.int .u8 0,x4,Bi,.int .i32 0,.int .i32 0]⟩⟩)))))) (qm .u8 1) (t3 (t3 (t3 (t3 (t1 bE) (jC 5) (t3 (t1 (jC 223)) bE (t1 (A3 405)))) bE (t3 (t3 cG bE (t1 ⟨.struct [],0,0,.agg
 ⟨[]⟩⟩)) bE (t3 (t1 (DJ 3 3)) bE cG))) zl (t3 (t3 (t3 (t1 ⟨.array 3 3,3,24,.agg ⟨cC 3 [fR]⟩⟩) bE cG) (jC 132) (t3 (t1 bE) bE cG)) ⟨.struct [(3,0),(3,1),(3,2),(22,3),(53,
 4)],5,72,.agg ⟨[fR,fR,fR,bu,bu]⟩⟩ (t3 (t1 bE) bE (t3 cG bE (t1 (A3 5)))))) ⟨.struct [(9,0),(12,1)],2,24,.agg ⟨[MU,.int .u64 0]⟩⟩ (t3 (t3 (t2 (t3 (t1 bE) bE cG) (t3 cG
 bE (t1 bE))) ⟨.struct [(45,0),(45,4)],8,128,.agg ⟨[ch,bu,ch,bu,ch,bu,ch,bu]⟩⟩ (t3 (t3 (t1 bE) bE cG) bE (t3 cG bE (t1 ⟨.struct [(17,0),(17,1),(17,2),(9,3)],4,40,.agg
 ⟨[Bi,Bi,Bi,MU]⟩⟩)))) (jC 45) (t3 (t3 (t3 (t1 bE) bE cG) MF (t3 (t1 bE) (jC 256) cG)) bE (t3 (t3 (t1 (DJ 3 317)) Tj cG) bE (t1 (jC 320)))))))))
def cD:Option cb:=aJ.get types 3
def funcs:aJ Func:=E7 2 Tryz.prog
theorem asc:iF Tryz.prog types:=asd aA
theorem Yz:yf 2 Tryz.prog funcs:=akp _ _
theorem bn{f:Nat}{fn:Func}(h:Tryz.prog.funcs[f]? =some fn)(h':s7 2 fn=true):funcs.get f=some fn:=aj7 h h'
end Go.Proofs.dI
namespace Go.ah.X
open Go Go.ah Go.Proofs Go.Proofs.dI
def br(i:Nat)(p:V)(s:S)(k:V->ax):ax:=aF (a6 i p) λx=>aF (cZ s x) k
def eG(z:Nat)(a i:V)(s:S)(k:V->ax):ax:=aF (dW z a i) λx=>aF (cZ s x) k
def hn(i:Nat)(p:V)(z:Nat)(s:S)(k:V->ax):ax:=aF (a6 i p) λx=>aF (bf z s x) k
def ke(z:Nat)(a i:V)(s:S)(k:V->ax):ax:=aF (dW z a i) λx=>aF (bf z s x) k
def RJ(s:S)(p:V)(k:V->ax):ax:=aF (cZ s p) k
def bP(z:Nat)(s:S)(p:V)(k:V->ax):ax:=aF (bf z s p) k
def hv(i:Nat)(p:V)(k:V->ax):ax:=aF (a6 i p) k
def hV(z:Nat)(a i:V)(k:V->ax):ax:=aF (dW z a i) k
def cr(a:V)(k:V->ax):ax:=aF (fP a) k
def ay(o:BinOp)(a b:V)(k:V->ax):ax:=aF (bH o cD a b) k
def az(g:V)(b:Bool)(o:Option V)(k:V->ax):ax:=aF (ic g b o) k
def dO(c:bt)(f:Nat)(l:List V)(s:S)(k:V->S->ax):ax:=bZ (cJ c false false (.fn f [] []) l s) k
def cX(c:bt)(f:Nat)(l:List V)(s:S)(k:V->S->ax):ax:=bZ (cJ c false true (.fn f [] []) l s) k
def ij(c:bt)(f:Nat)(l:List V)(s:S)(k:V->S->ax):ax:=bZ (cJ c true false (.fn f [] []) l s) k
def aoD(c:bt)(f:Nat)(l:List V)(s:S)(k:V->S->ax):ax:=bZ (cJ c true true (.fn f [] []) l s) k
def bQ(l:List V)(t:Nat)(s:S)(k:V->S->ax):ax:=bZ (c6 s (gv l t (aN s))) k
def bq(z:Nat)(p x:V)(s:S)(k:V->S->ax):ax:=bZ (c6 s (ef z p x (aN s))) k
def b0(t:Nat)(x:V)(s:S)(k:V->S->ax):ax:=bZ (c6 s (jj t x (aN s))) k
def ha(z n e:Nat)(l:List V)(q:List (Nat×Nat×V))(s:S)(k:V->S->ax):ax:=bZ (c6 s (fl z n e l q (aN s))) k
def iW(t:cb)(e:Nat)(x y:V)(s:S)(k:V->S->ax):ax:=bZ (c6 s (fD t e x y (aN s))) k
def dD(s:S)(v:V)(k:V->S->ct->ax):ax:=dp (ga none s (xD s v)) k
def bd(s:S)(o:Option V)(k:V->S->ct->ax):ax:=dp (ga none s (eT (some []) s o)) k
def dQ(s:S)(p:V)(k:V->S->ct->ax):ax:=dp (ga none s (eT (some (cp.cc p)) s (cZ s p))) k
def b7(z:Nat)(s:S)(p:V)(k:V->S->ct->ax):ax:=dp (ga none s (eT (some (cp.cc p)) s (bf z s p))) k
def bS(c:bt)(f:Nat)(l:List V)(s:S)(k:V->S->ct->ax):ax:=dp (ga none s (et c (.fn f [] []) l s)) k
def dx(z:Nat)(p x:V)(s:S)(k:V->S->ct->ax):ax:=dp (ga none s (e9 (some (cp.cc p)) (some (cp.cc p)) s (ef z p x (aN s)))) k
def lT(l:List V)(t:Nat)(s:S)(k:V->S->ct->ax):ax:=dp (ga none s (e9 (some []) (some []) s (gv l t (aN s)))) k
def kM(s:S)(a b:Reach)(o:Option (V×S))(k:V->S->ct->ax):ax:=dp (ga none s (e9 a b s o)) k
def dX(m:List Nat)(l:List ct)(k:ax):ax:=gZ (fe m l) k
def cY(ao s:S)(v:V):ax:=bB ao s [some v]
def ab(n:Int):V:=.int .i64 n
def iX(d:List V):List V:=[nth d 0,nth d 1]
def fT(d:List V):List V:=[nth d 0,nth d 1,nth d 2]
def gA(d:List V):List V:=[nth d 0,nth d 1,nth d 2,nth d 3]
def iY(d:List V):List V:=[nth d 0,nth d 1,nth d 2,nth d 3,nth d 4]
def kd(d:List V):List V:=[nth d 0,nth d 1,nth d 2,nth d 3,nth d 4,nth d 5]
def pA(d:List V):List V:=[nth d 0,nth d 1,nth d 2,nth d 3,nth d 4,nth d 5,nth d 6]
def AD(d:List V):List V:=[nth d 0,nth d 1,nth d 2,nth d 3,nth d 4,nth d 5,nth d 6,nth d 7]
def xG(d:List V):List V:=[nth d 0,nth d 1,nth d 2,nth d 3,nth d 4,nth d 5,nth d 6,nth d 7,nth d 8]
def RK(d:List V):List V:=[nth d 0,nth d 1,nth d 2,nth d 3,nth d 4,nth d 5,nth d 6,nth d 7,nth d 8,nth d 9]
def aaZ(d:List V):List V:=[nth d 0,nth d 1,nth d 2,nth d 3,nth d 4,nth d 5,nth d 6,nth d 7,nth d 8,nth d 9,nth d 10]
def lS(d:List V):List V:=[nth d 1,nth d 2]
def kL(d:List V):List V:=[nth d 1,nth d 2,nth d 3]
def mO(d:List V):List V:=[nth d 1,nth d 2,nth d 3,nth d 4]
def rG(d:List V):List V:=[nth d 1,nth d 2,nth d 3,nth d 4,nth d 5]
def qa(d:List V):List V:=[nth d 1,nth d 2,nth d 3,nth d 4,nth d 5,nth d 6]
def zc(d:List V):List V:=[nth d 1,nth d 2,nth d 3,nth d 4,nth d 5,nth d 6,nth d 7]
def LG(d:List V):List V:=[nth d 1,nth d 2,nth d 3,nth d 4,nth d 5,nth d 6,nth d 7,nth d 8]
def LH(d:List V):List V:=[nth d 1,nth d 2,nth d 3,nth d 4,nth d 5,nth d 6,nth d 7,nth d 8,nth d 9]
def aa0(d:List V):List V:=[nth d 1,nth d 2,nth d 3,nth d 4,nth d 5,nth d 6,nth d 7,nth d 8,nth d 9,nth d 10,nth d 11,nth d 12,nth d 13]
def an(d:List V):V:=nth d 0
def aD(d:List V):V:=nth d 1
def aU(d:List V):V:=nth d 2
def bm(d:List V):V:=nth d 3
def bY(d:List V):V:=nth d 4
def dd(d:List V):V:=nth d 5
def eS(d:List V):V:=nth d 6
def ik(d:List V):V:=nth d 7
def mn(d:List V):V:=nth d 8
def oe(d:List V):V:=nth d 9
def ec:List V:=[.bool false,.af,.bool false,.af]
def gG:List V:=[.bool false,.af,.bool false,.af,.bool false,.af,.bool false,.af]
def mo:List V:=[.bool false,.af,.bool false,.af,.bool false,.af,.bool false,.af,.bool false,.af,.bool false,.af,.bool false,.af,.bool false,.af]
def lx:List V:=[.int .i64 0,.int .i64 0,.int .i64 0,.af,.af]
def Da:List V:=[.af,.af,.af,.af]
theorem atz(F:bt->Nat->S->ax){f:Nat}{fn:Func}(t:Tryz.prog.funcs[f]? =some fn){O:bo}(h:O f=none)(J:s7 2 fn=true:=by kernel_rfl)(U:∀c n s,F c n s=oP (dT f) c types n fn [] s:=by exact λ_ _ _=>by kernel_rfl):bz O funcs types f (yl F):=.yl h (bn t J) U
theorem atA(F:bt->Nat->V->S->ax){f:Nat}{fn:Func}(t:Tryz.prog.funcs[f]? =some fn){O:bo}(h:O f=none)(J:s7 2 fn=true:=by kernel_rfl)(U:∀c n fC s,F c n fC s=oP (dT f) c types n fn [fC] s:=by exact λ_ _ _ _=>by kernel_rfl):bz O funcs types f (cN F):=.cN h (bn t J) U
theorem atB(F:bt->Nat->V->V->S->ax){f:Nat}{fn:Func}(t:Tryz.prog.funcs[f]? =some fn){O:bo}(h:O f=none)(J:s7 2 fn=true:=by kernel_rfl)(U:∀c n fC b1 s,F c n fC b1 s=oP (dT f) c types n fn [fC,b1] s:=by exact λ_ _ _ _ _=>by kernel_rfl):bz O funcs types f (bh F):=.bh h (bn t J) U
theorem atC(F:bt->Nat->V->V->V->S->ax){f:Nat}{fn:Func}(t:Tryz.prog.funcs[f]? =some fn){O:bo}(h:O f=none)(J:s7 2 fn=true:=by kernel_rfl)(U:∀c n fC b1 cq s,F c n fC b1 cq s=oP (dT f) c types n fn [fC,b1,cq] s:=by exact λ_ _ _ _ _ _=>by kernel_rfl):bz O funcs types f (hA F):=.hA h (bn t J) U
theorem atD(F:bt->Nat->V->V->V->V->S->ax){f:Nat}{fn:Func}(t:Tryz.prog.funcs[f]? =some fn){O:bo}(h:O f=none)(J:s7 2 fn=true:=by kernel_rfl)(U:∀c n fC b1 cq cV s,F c n fC b1 cq cV s=oP (dT f) c types n fn [fC,b1,cq,cV] s:=by exact λ_ _ _ _ _ _ _=>by kernel_rfl):bz O funcs types f (qw F):=.qw h (bn t J) U
theorem atE(F:bt->Nat->V->V->V->V->V->S->ax){f:Nat}{fn:Func}(t:Tryz.prog.funcs[f]? =some fn){O:bo}(h:O f=none)(J:s7 2 fn=true:=by kernel_rfl)(U:∀c n fC b1 cq cV dn s,F c n fC b1 cq cV dn s=oP (dT f) c types n fn [fC,b1,cq,cV,dn] s:=by exact λ_ _ _ _ _ _ _ _=>by kernel_rfl):bz O funcs types f (vz F):=.vz h (bn t J) U
theorem atF(F:bt->Nat->V->V->V->V->V->V->S->ax){f:Nat}{fn:Func}(t:Tryz.prog.funcs[f]? =some fn){O:bo}(h:O f=none)(J:s7 2 fn=true:=by kernel_rfl)(U:∀c n fC b1 cq cV dn ui s,F c n fC b1 cq cV dn ui s=oP (dT f) c types n fn [fC,b1,cq,cV,dn,ui] s:=by exact λ_ _ _ _ _ _ _ _ _=>by kernel_rfl):bz O funcs types f (uk F):=.uk h (bn t J) U
def cw:=ar @br.eq_1 (ar @eG.eq_1 (ar @hn.eq_1 (ar @ke.eq_1 (ar @RJ.eq_1 (ar @bP.eq_1 (ar @hv.eq_1 (ar @hV.eq_1 (ar @cr.eq_1 (ar @ay.eq_1 (ar @az.eq_1 (ar @dO.eq_1 (ar @cX.eq_1 (ar @ij.eq_1 (ar @aoD.eq_1 (ar @bQ.eq_1 (ar @bq.eq_1 (ar @b0.eq_1 (ar @ha.eq_1 (ar @iW.eq_1 (ar @dD.eq_1 (ar @bd.eq_1 (ar @dQ.eq_1 (ar @b7.eq_1 (ar @bS.eq_1 (ar @dx.eq_1 (ar @lT.eq_1 (ar @kM.eq_1 (ar @dX.eq_1 (ar @cY.eq_1 (ar @ab.eq_1 (ar @iX.eq_1 (ar @fT.eq_1 (ar @gA.eq_1 (ar @iY.eq_1 (ar @kd.eq_1 (ar @pA.eq_1 (ar @AD.eq_1 (ar @xG.eq_1 (ar @RK.eq_1 (ar @aaZ.eq_1 (ar @lS.eq_1 (ar @kL.eq_1 (ar @mO.eq_1 (ar @rG.eq_1 (ar @qa.eq_1 (ar @zc.eq_1 (ar @LG.eq_1 (ar @LH.eq_1 (ar @aa0.eq_1 (ar @an.eq_1 (ar @aD.eq_1 (ar @aU.eq_1 (ar @bm.eq_1 (ar @bY.eq_1 (ar @dd.eq_1 (ar @eS.eq_1 (ar @ik.eq_1 (ar @mn.eq_1 (ar @oe.eq_1 (ar @ec.eq_1 (ar @gG.eq_1 (ar @mo.eq_1 (ar @lx.eq_1 (@Da.eq_1))))))))))))))))))))))))))))))))))))))))))))))))))))))))))))))))
end Go.ah.X
