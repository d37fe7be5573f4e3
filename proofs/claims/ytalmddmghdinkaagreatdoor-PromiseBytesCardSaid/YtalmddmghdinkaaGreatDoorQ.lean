/-
  A part of the proof of PromiseBytes: lemmas, in short letters, printed by a program out of the longer texts; conditions: those that each lemma names.
-/
import Derived.Test.YtalmddmghdinkaaGreatDoorP
set_option linter.all false
set_option linter.deprecated false
noncomputable section
namespace Go.Vm.X
open Go
theorem ri {z d:V} (hd:aR d=true):aI (bz 1 [z]) [(0,1,d)]=some (.agg [d]):=by
 have hv:bc d= [d]:=by cases d<;>first|rfl|(cases hd;done)
 have hb:d≠ .bad:=by rintro rfl;cases hd
 unfold aI
 split
 ·exact absurd rfl hb
 ·rw [hv];rfl
theorem ug {s₀ s:S} {e z l:Nat} {te:TI} {x:V} {cs d c:List V} {ps:List (Nat×Nat×V)} (hl:Loc s₀ s) (hx:Ow s₀ s e z x l cs) (hf:aI c ps=some (.agg d)) (nD:d.length=z) (hd:d.all aR=true) (hs:te.size=z) (hb:0<te.bytes) (hlen:(l+1)*te.bytes≤140737488355328):
  ∃v' s',(∀K:V→S→bB,(af (aq s (dL z 1 e c ps (aw s))) fun v₁ s₁=>af (aq s₁ (bT te e x v₁ (aw s₁))) K)=K v' s')∧
   Ow s₀ s' e z v' (l+1) (cs++d)∧Loc s₀ s'∧Kp s s' (aA x)∧(∀b,b∈aA v'→b∈aA x∨s.n≤b):=by
 obtain ⟨v1,s1,e1,o1,l1,k1,b1⟩:=qU (e:=e) hl hf (by rw [nD,Nat.one_mul]:d.length=1*z)
 have M9:=hx.kp k1 (fun b _=>by simp)
 obtain ⟨v2,s2,e2,o2,l2,k2,b2⟩:=vN l1 M9 o1 hd hs hb hlen
 refine ⟨v2,s2,fun K=>by rw [e1,bS,e2,bS],o2,l2,⟨Nat.le_trans k1.1 k2.1,fun c hc hx=> ?_⟩,fun b hb=>(b2 b hb).imp id fun h=>Nat.le_trans k1.1 h⟩
 rw [k2.2 c (Nat.lt_of_lt_of_le hc k1.1) hx,k1.2 c hc (by simp)]
theorem mR {s₀ s:S} {e l:Nat} {te:TI} {x z d:V} {cs:List V} (hl:Loc s₀ s) (hx:Ow s₀ s e 1 x l cs) (hd:aR d=true) (hs:te.size=1) (hb:0<te.bytes) (hlen:(l+1)*te.bytes≤140737488355328):
  ∃v' s',(∀K:V→S→bB,(af (aq s (dL 1 1 e (bz 1 [z]) [(0,1,d)] (aw s))) fun v₁ s₁=>af (aq s₁ (bT te e x v₁ (aw s₁))) K)=K v' s')∧
   Ow s₀ s' e 1 v' (l+1) (cs++ [d])∧Loc s₀ s'∧Kp s s' (aA x)∧(∀b,b∈aA v'→b∈aA x∨s.n≤b):=
 ug hl hx (ri hd) rfl (by simp [hd]) hs hb hlen
theorem fI {s:S} {b j:Nat} {cs:List V} (h:Rd s b cs) (hj:j<cs.length):aM s (.ptr b j)=some (cs.getD j .bad):=by
 obtain ⟨e,bL,own,hg⟩:=h
 have h1:(cs.drop j).take 1= [cs.getD j .bad]:=by
  rw [List.drop_eq_getElem_cons hj,List.take_succ_cons,List.take_zero];simp [hj]
 unfold aM rd
 simp only [jZ hg (show j+1≤cs.length by omega),h1]
theorem ma {b o l c z' z:Nat} (k:IntKind) {i:Int} (h0:0≤i) (h1:i<l):ck z (.sl b o l c z') (.int k i)=some (.ptr b (o+i.toNat*z)):=by
 obtain ⟨n,rfl⟩: ∃n:Nat,i=n:=⟨i.toNat,by omega⟩
 have h2:Em (n:Int) l=true:=by show Nat.blt n l=true;rw [Nat.blt_eq];omega
 simp only [ck,h2,Int.toNat_natCast]
theorem dX.rd {s₀ s:S} {b:Nat} {cs:List V} {e:Nat} {bL:Bool} (h:dX s₀ s b cs e bL):Rd s b cs:=⟨e,bL,true,h.get⟩
theorem Ow.at {s₀ s:S} {e l:Nat} {v:V} {cs:List V} (h:Ow s₀ s e 1 v l cs) (k:IntKind) {i:Int} (h0:0≤i) (h1:i<l): ∃p,ck 1 v (.int k i)=some p∧aM s p=some (cs.getD i.toNat .bad):=by
 cases h with
 |nil=>omega
 |aF b l cs bL h hl=>
  refine ⟨_,ma k h0 h1,?_⟩
  rw [Nat.zero_add,Nat.mul_one]
  exact fI h.rd (by omega)
abbrev Bs (l:List Int):List V:=l.map (V.int .u8)
abbrev dk (l:List Int):List V:=l.map (V.int .i64)
theorem aS (k:IntKind): ∀l:List Int,(l.map (V.int k)).all atom=true
 | []=>rfl
 |_::l=>by simp only [List.map_cons,List.all_cons,aS k l];rfl
theorem dZ (k:IntKind): ∀l:List Int,(l.map (V.int k)).all aR=true
 | []=>rfl
 |_::l=>by simp only [List.map_cons,List.all_cons,dZ k l];rfl
theorem mD (k:IntKind) {l:List Int} {i:Nat} (h:i<l.length):(l.map (V.int k)).getD i .bad= .int k (l.getD i 0):=by simp [h]
def dg (m:Nat):List Int:=if h:m=0 then [] else ((m % 256:Nat):Int)::dg (m / 256)
termination_by m
decreasing_by omega
theorem gP:dg 0= []:=by unfold dg;simp
theorem iJ {m:Nat} (h:m≠0):dg m=((m % 256:Nat):Int)::dg (m / 256):=by rw [dg];simp [h]
theorem q6: ∀(n m:Nat),m≤n→ ∀d,d∈dg m→0≤d∧d≤255
 |n,m,hm,d,hd=>by
  by_cases h:m=0
  ·subst h;rw [gP] at hd;cases hd
  ·rw [iJ h] at hd
   cases n with
   |zero=>omega
   |succ n=>
    rcases List.mem_cons.1 hd with rfl|hd
    ·omega
    ·exact q6 n (m / 256) (by omega) d hd
theorem lO: ∀(n m:Nat),m<256 ^ n→(dg m).length≤n
 |0,m,h=>by
  have:m=0:=by simpa using h
  subst this;simp [gP]
 |n+1,m,h=>by
  by_cases hm:m=0
  ·subst hm;simp [gP]
  ·rw [iJ hm,List.length_cons]
   have:=lO n (m / 256) (by rw [Nat.pow_succ] at h;omega)
   omega
def mag (n:Int):Nat:=if n<0 then (-1 - n).toNat else n.toNat
def dH (n:Int):List Int:=(if n<0 then 127 - ((dg (mag n)).length:Int) else 128+(dg (mag n)).length)::(dg (mag n)).reverse.map fun d=>if n<0 then 255 - d else d
theorem lQ (n:Int):(dH n).length=(dg (mag n)).length+1:=by simp [dH]
def eC (l:List Int):List Int:=dH l.length++l.flatMap dH
theorem dh {α:Type} (l:List α) (z:α) {i:Nat} (h:i<l.length):l.getD i z∈l:=by
 have:l.getD i z=l[i]:=by simp [h]
 rw [this];exact List.getElem_mem h
theorem xD {α β:Type} (f:α→β) (d:List α) (z:α) {k:Nat} (h:0<k) (h':k≤d.length):(d.take k).reverse.map f=f (d.getD (k - 1) z)::(d.take (k - 1)).reverse.map f:=by
 obtain ⟨k,rfl⟩: ∃j,k=j+1:=⟨k - 1,by omega⟩
 have:d.take (k+1)=d.take k++ [d.getD k z]:=by
  rw [List.take_add_one];simp [show k<d.length by omega]
 rw [this];simp
theorem yK {n:Int} (h1: -9223372036854775808≤n) (h2:n≤9223372036854775807):mag n<9223372036854775808:=by unfold mag;split<;>omega
theorem kv {n:Int} (h1: -9223372036854775808≤n) (h2:n≤9223372036854775807):(dH n).length≤9:=by
 rw [lQ]
 have:=lO 8 (mag n) (by have:=yK h1 h2;omega)
 omega
def fk (n:Int):Prop:= -9223372036854775808≤n∧n≤9223372036854775807
theorem zC: ∀ {l:List Int},(∀x,x∈l→fk x)→(l.flatMap dH).length≤9*l.length
 | [],_=>by simp
 |x::l,h=>by
  rw [List.flatMap_cons,List.length_append,List.length_cons]
  have h1:=h x (List.mem_cons_self ..)
  have:=kv h1.1 h1.2
  have:=zC fun y hy=>h y (List.mem_cons_of_mem _ hy)
  omega
theorem fR {α:Type} (l:List α) (z:α) {i:Nat} (h:i<l.length):l.drop i=l.getD i z::l.drop (i+1):=by
 rw [List.drop_eq_getElem_cons h];simp [h]
theorem cY (l:List Int):(Bs l).length=l.length*1:=by simp
theorem Iv: ∀(n m:Nat),(dg m).length≤n→m<256 ^ n
 |0,m,h=>by
  by_cases hm:m=0
  ·subst hm;simp
  ·rw [iJ hm] at h;simp at h
 |n+1,m,h=>by
  by_cases hm:m=0
  ·subst hm;exact Nat.pow_pos (by omega)
  ·rw [iJ hm,List.length_cons] at h
   have:=Iv n (m / 256) (by omega)
   rw [Nat.pow_succ];omega
theorem Db: ∀(i m:Nat),i<(dg m).length→(dg m).getD i 0=((m / 256 ^ i % 256:Nat):Int)
 |0,m,h=>by
  by_cases hm:m=0
  ·subst hm;rw [gP] at h;simp at h
  ·rw [iJ hm];simp
 |i+1,m,h=>by
  by_cases hm:m=0
  ·subst hm;rw [gP] at h;simp at h
  ·rw [iJ hm,List.length_cons] at h
   rw [iJ hm,List.getD_cons_succ,Db i (m / 256) (by omega),Nat.div_div_eq_div_mul,Nat.pow_succ,Nat.mul_comm]
theorem bv8 {x:Int} (h:0≤x) (h':x≤255):(BitVec.ofInt 8 x).toNat=x.toNat:=by
 rw [BitVec.toNat_ofInt];omega
theorem sD (t:Option TI) {x:Int} (h:0≤x) (h':x≤255):an .xor t (.int .u8 x) (.int .u8 255)=some (.int .u8 (255 - x)):=by
 show some (V.int .u8 (IntKind.u8.wrap ((BitVec.ofInt 8 x ^^^ BitVec.ofInt 8 255).toNat:Int)))=_
 have e:BitVec.ofInt 8 255=BitVec.allOnes 8:=by decide
 rw [e,BitVec.xor_allOnes,BitVec.toNat_not,bv8 h h',MD (by omega) (by omega)]
 congr 2;omega
theorem ME (t:Option TI) {x:Int} (h:0≤x) (h':x≤255):an .xor t (.int .u8 x) (.int .u8 0)=some (.int .u8 x):=by
 show some (V.int .u8 (IntKind.u8.wrap ((BitVec.ofInt 8 x ^^^ BitVec.ofInt 8 0).toNat:Int)))=_
 have e:BitVec.ofInt 8 0=0#8:=by decide
 rw [e,BitVec.xor_zero,bv8 h h',MD (by omega) (by omega)]
 congr 2;omega
theorem JI {x:Int} (h:0≤x) (h':x≤18446744073709551615):(BitVec.ofInt 64 x).toNat=x.toNat:=by
 rw [BitVec.toNat_ofInt];omega
theorem Jg {x:Int} (h:0≤x) (h':x≤18446744073709551615):un .xor (.int .u64 x)=some (.int .u64 (18446744073709551615 - x)):=by
 show some (V.int .u64 (IntKind.u64.wrap ((BitVec.ofInt 64 IntKind.u64.max ^^^ BitVec.ofInt 64 x).toNat:Int)))=_
 have e:BitVec.ofInt 64 IntKind.u64.max=BitVec.allOnes 64:=by decide
 rw [e,BitVec.xor_comm,BitVec.xor_allOnes,BitVec.toNat_not,JI h h',H9 (by omega) (by omega)]
 congr 2;omega
theorem xu (t:Option TI) {x j:Int} (k:IntKind) (h:0≤x) (hj:0≤j) (sM:j≤64):an .shr t (.int .u64 x) (.int k j)=some (.int .u64 (x / 2 ^ j.toNat)):=by
 have e:an .shr t (.int .u64 x) (.int k j)=lift (Vm.pA .shr .u64 x j):=by cases k<;>rfl
 rw [e]
 unfold Vm.pA
 rw [if_neg (by omega)]
 simp only [lift,gb,da]
 have:min j.toNat IntKind.u64.bits=j.toNat:=Nat.min_eq_left (by show j.toNat≤64;omega)
 rw [this,Int.fdiv_eq_ediv_of_nonneg]
 exact Int.le_of_lt (Int.pow_pos (by omega))
theorem SF (t:Option TI) {x:Int} :an .shl t (.int .u64 x) (.int .u64 8)=some (.int .u64 (IntKind.u64.wrap (x*256))):=rfl
theorem Zj (t:Option TI) {x y:Int} (h:0≤x) (h':x*256+255≤18446744073709551615) (hy:0≤y) (El:y≤255):an .or t (.int .u64 (x*256)) (.int .u64 y)=some (.int .u64 (x*256+y)):=by
 show some (V.int .u64 (IntKind.u64.wrap ((BitVec.ofInt 64 (x*256) |||BitVec.ofInt 64 y).toNat:Int)))=_
 rw [BitVec.toNat_or,JI (by omega) (by omega),JI (by omega) (by omega)]
 have e:(x*256).toNat=2 ^ 8*x.toNat:=by omega
 have:=Nat.two_pow_add_eq_or_of_lt (i:=8) (b:=y.toNat) (by omega) x.toNat
 rw [e,←this,H9 (by omega) (by omega)]
 congr 2;omega
theorem aa5 {x:Int} (h:0≤x):IntKind.u8.wrap x=x % 256:=by
 simp [IntKind.wrap,IntKind.bits,IntKind.signed]
theorem aa6 {x:Int} (h:x<0) (h': -9223372036854775808≤x):IntKind.u64.wrap x=x+18446744073709551616:=by
 simp [IntKind.wrap,IntKind.bits,IntKind.signed];omega
theorem eM {k:IntKind} {i:Int} {m d:Nat} (h:0≤i) (h':i≤m):bound (some (.int k i)) m d=some i.toNat:=by
 simp only [bound];rw [if_pos ⟨h,h'⟩]
theorem Fs.sl {z:Nat} {v:V} {l:Nat} {cs:List V} (h:Fs z v l cs) {k k':IntKind} {lo hi:Int} (h0:0≤lo) (h1:lo≤hi) (h2:hi≤l): ∃w,gE z v (some (.int k lo)) (some (.int k' hi)) none=some w∧Fs z w (hi.toNat - lo.toNat) ((cs.take (hi.toNat*z)).drop (lo.toNat*z)):=by
 cases h with
 |nil=>
  refine ⟨.ah,?_,?_⟩
  ·unfold gE
   have e1:bound (some (.int k' hi)) 0 0=some hi.toNat:=eM (by omega) h2
   have e2:bound (some (.int k lo)) hi.toNat 0=some lo.toNat:=eM h0 (by omega)
   have e3:Nat.ble hi.toNat 0=true:=by rw [Nat.ble_eq];omega
   simp only [show bound none 0 0=some 0 from rfl,e1,e2,e3]
  ·rw [show hi.toNat - lo.toNat=0 by omega,List.take_nil,List.drop_nil];exact .nil
 |mk cs l hc=>
  refine ⟨.iL ((cs.take (hi.toNat*z)).drop (lo.toNat*z)) (hi.toNat - lo.toNat),?_,.mk _ _ ?_⟩
  ·have e1:bound (some (.int k' hi)) l l=some hi.toNat:=eM (by omega) h2
   have e2:bound (some (.int k lo)) hi.toNat 0=some lo.toNat:=eM h0 (by omega)
   have e3:(Nat.ble hi.toNat l && Nat.ble (hi.toNat*z) cs.length)=true:=by
    rw [Bool.and_eq_true,Nat.ble_eq,Nat.ble_eq,hc]
    exact ⟨by omega,Nat.mul_le_mul_right _ (by omega)⟩
   simp only [gE,jq,show bound none l l=some l from rfl,e1,e2,e3]
  ·rw [List.length_drop,List.length_take,hc,Nat.min_eq_left (Nat.mul_le_mul_right _ (by omega)),Nat.sub_mul]
theorem Mi {z:Nat} {v hi:V} {k:IntKind} :gE z v (some (.int k 0)) (some hi) none=gE z v none (some hi) none:=by
 have hb: ∀m,bound (some (.int k 0)) m 0=bound none m 0:=fun m=>by
  rw [eM (by omega) (by omega)];rfl
 cases v<;>simp only [gE,jq,hb]
theorem Fs.BQ {z:Nat} {v:V} {l:Nat} {cs:List V} (h:Fs z v l cs) {k:IntKind} {lo:Int} (h0:0≤lo) (h1:lo≤l): ∃w,gE z v (some (.int k lo)) none none=some w∧Fs z w (l - lo.toNat) (cs.drop (lo.toNat*z)):=by
 obtain ⟨w,e,f⟩:=h.sl (k:=k) (k':= .i64) (lo:=lo) (hi:=l) h0 h1 (by omega)
 refine ⟨w,?_,?_⟩
 ·rw [←e]
  cases h with
  |nil=>simp only [gE,show bound (some (.int .i64 ((0:Nat):Int))) 0 0=some 0 from rfl,show bound none 0 0=some 0 from rfl]
  |mk cs l hc=>simp only [gE,jq,show bound none l l=some l from rfl,show bound (some (.int .i64 (l:Int))) l l=some l from by rw [eM (by omega) (by omega),Int.toNat_natCast]]
 ·have hc:=h.cells
  rw [Int.toNat_natCast,←hc,List.take_length] at f
  exact f
theorem Is.sl {k:IntKind} {v:V} {l:List Int} (h:Is k v l) {q q':IntKind} {lo hi:Int} (h0:0≤lo) (h1:lo≤hi) (h2:hi≤l.length): ∃w,gE 1 v (some (.int q lo)) (some (.int q' hi)) none=some w∧Is k w ((l.take hi.toNat).drop lo.toNat):=by
 obtain ⟨w,e,f⟩:=Fs.sl h (k:=q) (k':=q') h0 h1 h2
 refine ⟨w,e,?_⟩
 unfold Is
 rw [Nat.mul_one,Nat.mul_one,←List.map_take,←List.map_drop] at f
 have:((l.take hi.toNat).drop lo.toNat).length=hi.toNat - lo.toNat:=by rw [List.length_drop,List.length_take];omega
 rw [this];exact f
theorem Is.SG {k:IntKind} {v:V} {l:List Int} (h:Is k v l) {q':IntKind} {hi:Int} (h1:0≤hi) (h2:hi≤l.length): ∃w,gE 1 v none (some (.int q' hi)) none=some w∧Is k w (l.take hi.toNat):=by
 obtain ⟨w,e,f⟩:=h.sl (q:= .i64) (q':=q') (lo:=0) (by omega) h1 h2
 rw [Mi] at e
 exact ⟨w,e,by simpa using f⟩
theorem Is.BQ {k:IntKind} {v:V} {l:List Int} (h:Is k v l) {q:IntKind} {lo:Int} (h0:0≤lo) (h1:lo≤l.length): ∃w,gE 1 v (some (.int q lo)) none none=some w∧Is k w (l.drop lo.toNat):=by
 obtain ⟨w,e,f⟩:=Fs.BQ h (k:=q) h0 h1
 refine ⟨w,e,?_⟩
 unfold Is
 rw [Nat.mul_one,←List.map_drop] at f
 rw [List.length_drop];exact f
def vl:List Int→Int
 | []=>0
 |d::l=>d+256*vl l
def bytes (b:List Int):Prop:= ∀x,x∈b→0≤x∧x≤255
theorem mn: ∀ {l:List Int},bytes l→0≤vl l∧vl l<256 ^ l.length
 | [],_=>by simp [vl]
 |d::l,h=>by
  have h1:=h d (List.mem_cons_self ..)
  have h2:=mn (l:=l) fun x hx=>h x (List.mem_cons_of_mem _ hx)
  simp only [vl,List.length_cons,Int.pow_succ]
  omega
def gK (f g:Int→Int) (k:Int) (b:List Int):Int×Int×Int:=
 if 8<k then (0,0,2) else
 if (b.length:Int)≤k then (0,0,3) else
 if 0<k∧f (b.getD 1 0)=0 then (0,0,2) else
 if 9223372036854775807<vl (((b.take (k.toNat+1)).drop 1).map f).reverse then (0,0,2) else
 (g (vl (((b.take (k.toNat+1)).drop 1).map f).reverse),k+1,0)
def gI (b:List Int):Int×Int×Int:=
 if b.length=0 then (0,0,3) else
 if b.getD 0 0<128 then gK (fun d=>255 - d) (fun m=> -1 - m) (255 - b.getD 0 0 - 128) b else gK id id (b.getD 0 0 - 128) b
def T3 (r:Int×Int×Int):V:= .dQ [.int .i64 r.1,.int .i64 r.2.1,.int .i64 r.2.2]
theorem qN (f:Int→Int) (l:List Int) {i:Nat} (h:i<l.length):vl ((l.take (i+1)).map f).reverse=f (l.getD i 0)+256*vl ((l.take i).map f).reverse:=by
 have:l.take (i+1)=l.take i++ [l.getD i 0]:=by
  rw [List.take_add_one];simp [h]
 rw [this,List.map_append,List.reverse_append]
 rfl
theorem iZ {f:Int→Int} (hf: ∀x,0≤x→x≤255→0≤f x∧f x≤255) {l:List Int} (h:bytes l):bytes (l.map f):=fun x hx=>by
 obtain ⟨y,hy,rfl⟩:=List.mem_map.1 hx
 exact hf y (h y hy).1 (h y hy).2
theorem ja {l:List Int} (h:bytes l):bytes l.reverse:=fun x hx=>h x (List.mem_reverse.1 hx)
theorem cP {l:List Int} (n:Nat) (h:bytes l):bytes (l.take n):=fun x hx=>h x (List.mem_of_mem_take hx)
theorem bP {l:List Int} (n:Nat) (h:bytes l):bytes (l.drop n):=fun x hx=>h x (List.mem_of_mem_drop hx)
theorem MB {l:List Int} (h:bytes l) (h7:l.length≤7):0≤vl l∧vl l<72057594037927936:=by
 have h1:=mn h
 refine ⟨h1.1,Int.lt_of_lt_of_le h1.2 ?_⟩
 have h2:(256:Nat) ^ l.length≤256 ^ 7:=Nat.pow_le_pow_right (by omega) h7
 have:(256:Int) ^ l.length=((256 ^ l.length:Nat):Int):=by simp
 omega
theorem MC {l:List Int} (h:bytes l) (h8:l.length≤8):0≤vl l∧vl l<18446744073709551616:=by
 have h1:=mn h
 refine ⟨h1.1,Int.lt_of_lt_of_le h1.2 ?_⟩
 have h2:(256:Nat) ^ l.length≤256 ^ 8:=Nat.pow_le_pow_right (by omega) h8
 have:(256:Int) ^ l.length=((256 ^ l.length:Nat):Int):=by simp
 omega
theorem Jb (t:Option TI) {x:Int} (h:0≤x):an .shr t (.int .u64 x) (.int .u64 63)=some (.int .u64 (x / 9223372036854775808)):=by
 rw [xu t .u64 h (by omega) (by omega)];rfl
theorem S5 {m:Int} (h:0≤m) (h':m≤9223372036854775807):IntKind.i64.wrap (18446744073709551615 - m)= -1 - m:=by
 simp [IntKind.wrap,IntKind.bits,IntKind.signed];omega
def nd (m:Nat):List Int:=if h:m=0 then [] else ((m % 1000000000:Nat):Int)::nd (m / 1000000000)
termination_by m
decreasing_by omega
theorem jg {α:Type} (l:List α) (z:α) {i:Nat} (h:l.length≤i):l.getD i z=z:=by simp [h]
theorem cG:nd 0= []:=by unfold nd;simp
theorem jk {m:Nat} (h:m≠0):nd m=((m % 1000000000:Nat):Int)::nd (m / 1000000000):=by rw [nd];simp [h]
def vb:List Int→Int
 | []=>0
 |d::l=>d+1000000000*vb l
def gu (l:List Int):Prop:= ∀x,x∈l→0≤x∧x<1000000000
theorem oa:gu []:=fun _ h=>by cases h
theorem q7 {d:Int} {l:List Int} (h:0≤d∧d<1000000000) (hl:gu l):gu (d::l):=fun x hx=>(List.mem_cons.1 hx).elim (fun e=>e ▸ h) (hl x)
theorem yh {d:Int} {l:List Int} (h:gu (d::l)):(0≤d∧d<1000000000)∧gu l:=⟨h d (List.mem_cons_self ..),fun x hx=>h x (List.mem_cons_of_mem _ hx)⟩
theorem qA {a b:List Int} (ha:gu a) (hb:gu b):gu (a++b):=fun x hx=>(List.mem_append.1 hx).elim (ha x) (hb x)
theorem gQ {l:List Int} (n:Nat) (h:gu l):gu (l.take n):=fun x hx=>h x (List.mem_of_mem_take hx)
theorem lP {l:List Int} (n:Nat) (h:gu l):gu (l.drop n):=fun x hx=>h x (List.mem_of_mem_drop hx)
theorem oc {d:Int} (h:0≤d∧d<1000000000):gu [d]:=q7 h oa
theorem dF {l:List Int} (h:gu l) (i:Nat):0≤l.getD i 0∧l.getD i 0<1000000000:=by
 by_cases hi:i<l.length
 ·exact h _ (dh l 0 hi)
 ·rw [jg _ _ (by omega)];omega
theorem ku {l:List Int} (h:gu l) (i:Nat) {x:Int} (hx:0≤x∧x<1000000000):gu (l.set i x):=fun y hy=>(List.mem_or_eq_of_mem_set hy).elim (h y) (fun e=>e ▸ hx)
theorem qB (n:Nat):gu (List.replicate n 0):=fun x hx=>by have:=List.eq_of_mem_replicate hx;omega
theorem EC: ∀(n m:Nat),m≤n→gu (nd m)
 |n,m,hm=>by
  by_cases h:m=0
  ·subst h;rw [cG];exact oa
  ·rw [jk h]
   cases n with
   |zero=>omega
   |succ n=>exact q7 (by omega) (EC n _ (by omega))
theorem cJ (m:Nat):gu (nd m):=EC m m (Nat.le_refl _)
theorem FB: ∀(n m:Nat),m≤n→vb (nd m)=m
 |n,m,hm=>by
  by_cases h:m=0
  ·subst h;rw [cG];rfl
  ·rw [jk h]
   cases n with
   |zero=>omega
   |succ n=>rw [vb,FB n _ (by omega)];omega
theorem cn (m:Nat):vb (nd m)=m:=FB m m (Nat.le_refl _)
theorem hJ: ∀ {l:List Int},gu l→0≤vb l
 | [],_=>by simp [vb]
 |d::l,h=>by have h':=yh h;have:=hJ h'.2;simp only [vb];omega
def bp (n:Nat):Int:=1000000000 ^ n
theorem JH:bp 0=1:=rfl
theorem qW (n:Nat):bp (n+1)=1000000000*bp n:=by unfold bp;rw [Int.pow_succ,Int.mul_comm]
theorem fb (n:Nat):1≤bp n:=by
 have:0<bp n:=Int.pow_pos (by omega)
 omega
theorem lL (m n:Nat):bp (m+n)=bp m*bp n:=Int.pow_add ..
theorem iS: ∀ {l:List Int},gu l→vb l<bp l.length
 | [],_=>by simp [vb,JH]
 |d::l,h=>by
  have h':=yh h
  have:=iS h'.2
  simp only [vb,List.length_cons,qW];omega
theorem vm: ∀(a b:List Int),vb (a++b)=vb a+bp a.length*vb b
 | [],b=>by simp [vb,JH]
 |d::a,b=>by
  simp only [List.cons_append,vb,vm a b,List.length_cons,qW]
  grind
theorem nr (l:List Int) (i:Nat):vb (l.take (i+1))=vb (l.take i)+bp i*l.getD i 0:=by
 by_cases hi:i<l.length
 ·have:l.take (i+1)=l.take i++ [l.getD i 0]:=by rw [List.take_add_one];simp [hi]
  rw [this,vm,List.length_take,Nat.min_eq_left (by omega)]
  simp [vb]
 ·rw [List.take_of_length_le (by omega),List.take_of_length_le (by omega),jg _ _ (by omega)];omega
theorem iO (l:List Int) (i:Nat) (h:i≤l.length):vb l=vb (l.take i)+bp i*vb (l.drop i):=by
 have:=vm (l.take i) (l.drop i)
 rw [List.take_append_drop,List.length_take,Nat.min_eq_left h] at this
 exact this
theorem eJ (l:List Int) {i:Nat} (h:i<l.length):vb (l.drop i)=l.getD i 0+1000000000*vb (l.drop (i+1)):=by
 rw [fR l 0 h];rfl
theorem xK (n:Nat):vb (List.replicate n 0)=0:=by
 induction n with
 |zero=>rfl
 |succ n ih=>rw [List.replicate_succ,vb,ih];rfl
theorem kS: ∀(l:List Int) (j:Nat) (x:Int),j<l.length→vb (l.set j x)=vb l+bp j*(x - l.getD j 0)
 | [],j,x,h=>by simp at h
 |d::l,0,x,_=>by simp [vb,JH];omega
 |d::l,j+1,x,h=>by
  have:=kS l j x (by simpa using h)
  simp only [List.set_cons_succ,vb,this,qW,List.getD_cons_succ]
  grind
theorem AL (l:List Int) (d:Int):vb (l++ [d])=vb l+bp l.length*d:=by rw [vm];simp [vb]
def trim (l:List Int):Prop:=l≠ []→l.getD (l.length - 1) 0≠0
theorem AI {d:Int} {l:List Int} (h:trim (d::l)):trim l:=fun hl=>by
 have:=h (by simp)
 cases l with
 |nil=>exact absurd rfl hl
 |cons e l=>simpa using this
theorem rN {m:Nat} (h:m≠0):nd m≠ []:=by rw [jk h];simp
theorem EE: ∀ {l:List Int},gu l→trim l→nd (vb l).toNat=l
 | [],_,_=>cG
 |d::l,h,ht=>by
  have h':=yh h
  have ih:=EE h'.2 (AI ht)
  have hn:=hJ h'.2
  have hne:vb (d::l)≠0:=by
   simp only [vb]
   cases l with
   |nil=>have:=ht (by simp);simp [vb] at this ⊢;exact this
   |cons e l=>
    have:(vb (e::l)).toNat≠0:=by
     intro h0;rw [h0,cG] at ih;cases ih
    omega
  have hp:0≤vb (d::l):=hJ h
  rw [jk (by omega)]
  simp only [vb] at hp hne ⊢
  have e1:(d+1000000000*vb l).toNat % 1000000000=d.toNat:=by omega
  have e2:(d+1000000000*vb l).toNat / 1000000000=(vb l).toNat:=by omega
  rw [e1,e2,ih]
  congr 1;omega
theorem uS (m:Nat):trim (nd m):=by
 suffices ∀n m,m≤n→trim (nd m) from this m m (Nat.le_refl _)
 intro n
 induction n with
 |zero=>
  intro m hm;have:m=0:=by omega
  subst this;rw [cG];exact fun h=>absurd rfl h
 |succ n ih=>
  intro m hm
  by_cases h:m=0
  ·subst h;rw [cG];exact fun h=>absurd rfl h
  ·intro _
   rw [jk h]
   by_cases h1:m / 1000000000=0
   ·rw [h1,cG];simp;omega
   ·have:=ih (m / 1000000000) (by omega) (rN h1)
    have hl:0<(nd (m / 1000000000)).length:=List.length_pos_iff.2 (rN h1)
    rw [List.length_cons,Nat.add_sub_cancel,show (nd (m / 1000000000)).length=(nd (m / 1000000000)).length - 1+1 by omega,List.getD_cons_succ]
    exact this
theorem Lz {l:List Int} (h:gu l) {n:Nat} (hn:n≤l.length) (hv:vb (l.take n)=vb l) (ht:n=0∨l.getD (n - 1) 0≠0):nd (vb l).toNat=l.take n:=by
 rw [←hv]
 refine EE (gQ n h) fun hne=> ?_
 have yE:n≠0:=by rintro rfl;simp at hne
 rw [List.length_take,Nat.min_eq_left hn]
 have:(l.take n).getD (n - 1) 0=l.getD (n - 1) 0:=by
  simp [List.getD_eq_getElem?_getD,List.getElem?_take,show n - 1<n by omega]
 rw [this]
 exact ht.resolve_left yE
theorem rM {x y:Nat} (h:(nd x).length<(nd y).length):x<y:=by
 have h1:=iS (cJ x)
 rw [cn] at h1
 have hy:0<(nd y).length:=by omega
 have h2:=iO (nd y) ((nd y).length - 1) (by omega)
 have h3:=eJ (nd y) (i:=(nd y).length - 1) (by omega)
 have h4:=uS y (List.ne_nil_of_length_pos hy)
 have h5:=dF (cJ y) ((nd y).length - 1)
 have h6:=hJ (gQ ((nd y).length - 1) (cJ y))
 rw [List.drop_eq_nil_of_le (show (nd y).length≤(nd y).length - 1+1 by omega)] at h3
 rw [cn] at h2
 have h7:bp (nd x).length≤bp ((nd y).length - 1):=by
  obtain ⟨k,hk⟩: ∃k,(nd y).length - 1=(nd x).length+k:=⟨(nd y).length - 1 - (nd x).length,by omega⟩
  rw [hk,lL]
  have a:=fb (nd x).length
  have b:=fb k
  calc bp (nd x).length=bp (nd x).length*1:=by omega
   _≤_:=Int.mul_le_mul_of_nonneg_left b (by omega)
 have h8:bp ((nd y).length - 1)*1≤bp ((nd y).length - 1)*vb ((nd y).drop ((nd y).length - 1)):=Int.mul_le_mul_of_nonneg_left (by rw [h3];simp only [vb];omega) (by have:=fb ((nd y).length - 1);omega)
 omega
theorem uj {a b:List Int} (hl:a.length=b.length) (ha:gu a) (hb:gu b) {i:Nat} (hi:i<a.length) (he:a.drop (i+1)=b.drop (i+1)) (hlt:a.getD i 0<b.getD i 0):vb a<vb b:=by
 rw [iO a i (by omega),iO b i (by omega),eJ a hi,eJ b (by omega),he]
 have h1:=iS (gQ i ha)
 have h2:=hJ (gQ i hb)
 rw [List.length_take,Nat.min_eq_left (by omega)] at h1
 have h3:bp i*(a.getD i 0+1000000000*vb (b.drop (i+1))+1)≤bp i*(b.getD i 0+1000000000*vb (b.drop (i+1))):=Int.mul_le_mul_of_nonneg_left (by omega) (by have:=fb i;omega)
 rw [Int.mul_add _ _ 1,Int.mul_one] at h3
 omega
def jb (x y:Int):Int:=if x<y then -1 else if y<x then 1 else 0
theorem ve (cs:List V) {j:Nat} (x:V) (h:j<cs.length):bY cs j [x]=cs.set j x:=by
 unfold bY
 rw [List.set_eq_take_append_cons_drop,if_pos h]
 rfl
theorem kh {s:S} {b j:Nat} {cs l:List V} {e:Nat} {bL:Bool} (h:s.h.get b=some (.cells cs e bL true)) (hj:j+l.length≤cs.length) (hx:l.all aR=true):
  fN s b j l=some { s with h:=s.h.set b (.cells (bY cs j l) e bL true),wm:=min s.wm b } :=by
 have h1:(Nat.ble (j+l.length) cs.length && l.all aR)=true:=by
  rw [Bool.and_eq_true,Nat.ble_eq];exact ⟨hj,hx⟩
 unfold fN
 simp only [h,h1]
theorem dX.write {s₀ s:S} {b j:Nat} {cs l:List V} {e:Nat} {bL:Bool} (hl:Loc s₀ s) (h:dX s₀ s b cs e bL) (hj:j+l.length≤cs.length) (hx:l.all aR=true):
  ∃s',(∀v,aq s (match fN (aw s) b j l with
   |some t=>some (v,t)
   |none=>none)=some (v,s'))∧dX s₀ s' b (bY cs j l) e bL∧Loc s₀ s'∧Kp s s' [b]∧s'.n=s.n:=by
 have h0:=hl.n
 have h1:=hl.fx
 have h2:=hl.wm
 have hb:=h.lo
 have gY:=h.hi
 rw [kh (s:=aw s) h.get hj hx]
 refine ⟨_,fun v=>rfl,⟨h.lo,h.hi,?_⟩,⟨h0,?_,?_⟩,⟨Nat.le_refl _,fun c _ hc=> ?_⟩,rfl⟩
 ·simp only [aw];exact Tr.aQ _ _ _
 ·simp only [aw];omega
 ·simp only [aw];omega
 ·simp only [aw];rw [Tr.aK _ _ (by simpa using hc)]
theorem AH {s:S} {b j:Nat} {x:V} (hx:aR x=true):aB 1 (.ptr b j) x s=match fN s b j [x] with
  |some t=>some (.bad,t)
  |none=>none:=by
 cases x<;>first|rfl|(cases hx;done)
theorem Ow.put {s₀ s:S} {e l:Nat} {v:V} {cs:List V} (hl:Loc s₀ s) (h:Ow s₀ s e 1 v l cs) (k:IntKind) {i:Int} (h0:0≤i) (h1:i<l) {x:V} (hx:aR x=true):
  ∃p s',ck 1 v (.int k i)=some p∧aq s (aB 1 p x (aw s))=some (.bad,s')∧Ow s₀ s' e 1 v l (cs.set i.toNat x)∧Loc s₀ s'∧Kp s s' (aA v):=by
 cases h with
 |nil=>omega
 |aF b l cs bL h hc=>
  obtain ⟨s',e1,b1,l1,k1,_⟩:=h.write hl (j:=i.toNat) (l:= [x]) (by simp;omega) (by simp [hx])
  refine ⟨_,s',ma k h0 h1,?_,?_,l1,k1⟩
  ·rw [Nat.zero_add,Nat.mul_one,AH hx];exact e1 _
  ·rw [ve _ _ (by omega)] at b1
   exact .aF b l _ bL b1 (by simpa using hc)
theorem Ow.pt {s₀ s:S} {e l:Nat} {v:V} {cs:List V} (h:Ow s₀ s e 1 v l cs) (k:IntKind) {i:Int} (h0:0≤i) (h1:i<l):
  ∃b,v= .sl b 0 l l 1∧ck 1 v (.int k i)=some (.ptr b i.toNat):=by
 cases h with
 |nil=>omega
 |aF b l cs bL h hc=>exact ⟨b,rfl,by rw [ma k h0 h1,Nat.zero_add,Nat.mul_one]⟩
theorem I8 (n:Nat) (x:V):bz n [x]=List.replicate n x:=by
 induction n with
 |zero=>rfl
 |succ n ih=>rw [bz,ih,List.replicate_succ];rfl
theorem Re {s₀ s:S} {T:Types} {t e:Nat} {te ti:TI} {x:V} {n:Int} (hl:Loc s₀ s) (ht:T.get t=some ti) (hk:ti.kind= .slice e) (ej:T.get e=some te) (hz:zero te= [x]) (hs:te.size=1) (h0:0≤n) (hb:te.bytes*n≤281474976710656) (hn:n≤4611686018427387904):
  ∃v' s',aq s (bQ T t (.int .i64 n) (.int .i64 n) (aw s))=some (v',s')∧Ow s₀ s' e 1 v' n.toNat (List.replicate n.toNat x)∧Loc s₀ s'∧Kp s s' []∧(∀b,b∈aA v'→s.n≤b):=by
 have h0':=hl.n
 have h1:=hl.fx
 have h2:=hl.wm
 obtain ⟨kd,sz,AX,z⟩:=ti
 simp only [] at hk
 subst hk
 unfold bQ
 simp only [ht,ej]
 rw [if_pos ⟨h0,Int.le_refl _,hb,hn⟩,hz,I8,hs]
 exact ⟨_,_,rfl,.aF s.n _ _ false ⟨h0',by simp [newObj,aw],by simp only [newObj,aw];exact Tr.aQ _ _ _⟩ (by simp),⟨by simp only [newObj,aw];omega,by simp only [newObj,aw];omega,by simp only [newObj,aw];omega⟩,
  ⟨by simp only [newObj,aw];omega,fun c hc _=>by simp only [newObj,aw];rw [Tr.aK _ _ (by omega)]⟩,fun b hb=>by simp [aA,aw] at hb;omega⟩
def qc (s:S) (e:Nat) (k:IntKind) (P:List Int→Prop) (r:bB):Prop:= ∃l,P l∧fE s e 1 l.length (l.map (V.int k)) r
def AR (cf:CF) (f:Nat) (args:List V) (e:Nat) (k:IntKind) (P:List Int→Prop):Prop:= ∀s,s.wm=s.n→qc s e k P (cf f args s)
theorem cc.L0 {O:aL} {G:Tr Func} {T:Types} {f:Nat} {F:Fn} (hE:cc O G T f F) (n:Nat) {args:List V} {s:S} {e:Nat} {k:IntKind} {P:List Int→Prop} (h:qc s e k P (F (vV O G T) n args s)) (hw:s.wm≤s.n):qc s e k P (vV O G T f args s):=by
 obtain ⟨l,hp,hn⟩:=h
 exact ⟨l,hp,hE.runN n hn hw⟩
theorem jP (s:S) (e:Nat) (k:IntKind) (P:List Int→Prop) (f:List V→S→bB) (c:(List V→S→bB)→bB):qc s e k P (jn f c)=qc s e k P (c f):=propext ⟨id,id⟩
theorem Dt {s s':S} {e:Nat} {k:IntKind} {P:List Int→Prop} {v:V} {l:List Int} (h1:s.wm=s.n) (hl:Loc s s') (h:Ow s s' e 1 v l.length (l.map (V.int k))) (hp:P l):qc s e k P (aC s s' [some v]):=
 ⟨l,hp,eP h1 hl h (aS _ _)⟩
theorem JS {cf:CF} {dr st:Bool} {f:Nat} {args args':List V} {bs:List Nat} {s₀ s s₁:S} {e:Nat} {k:IntKind} {P:List Int→Prop} (hl:Loc s₀ s) (ha:bK (aw s) args args' bs s₁) (hb: ∀b,b∈bs→s₀.n≤b) (hd:st=true→dr=true→bs= []) (hc:AR cf f args' e k P):
  ∃l,P l∧ ∃v s',au cf dr st (.fn f [] []) args s=some (v,s')∧Ow s₀ s' e 1 v l.length (l.map (V.int k))∧Loc s₀ s'∧Kp s s' bs∧(∀b,b∈aA v→s.n≤b)∧ ∀c cs,Rd s c cs→c<s.n→Rd s' c cs:=by
 have hn:=ha.n
 have hw:s₁.wm=s₁.n:=by rw [hn.1,hn.2];rfl
 obtain ⟨l,hp,h⟩:=hc s₁ hw
 exact ⟨l,hp,ya hl ha hb hd h (by simp)⟩
theorem zv {cf:CF} {dr st:Bool} {f:Nat} {args:List V} {s₀ s:S} {e:Nat} {k:IntKind} {P:List Int→Prop} (hl:Loc s₀ s) (ha:args.all cm=true) (hc:AR cf f args e k P):
  ∃l,P l∧ ∃v s',au cf dr st (.fn f [] []) args s=some (v,s')∧Ow s₀ s' e 1 v l.length (l.map (V.int k))∧Loc s₀ s'∧Kp s s' []∧(∀b,b∈aA v→s.n≤b):=
 let ⟨l,hp,v,s',h1,h2,h3,h4,h5,_⟩:=JS hl (bK.ats _ ha) (fun b hb=>by cases hb) (fun _ _=>rfl) hc
 ⟨l,hp,v,s',h1,h2,h3,h4,h5⟩
def bW (s:S) (P:V→Prop) (r:bB):Prop:= ∃v,P v∧r=some (v,s)
theorem cc.fD {O:aL} {G:Tr Func} {T:Types} {f:Nat} {F:Fn} (hE:cc O G T f F) (n:Nat) {args:List V} {s:S} {P:V→Prop} (h:bW s P (F (vV O G T) n args s)) (hw:s.wm≤s.n): ∃v,P v∧vV O G T f args s=some (v,s):=by
 obtain ⟨v,hp,h⟩:=h
 exact ⟨v,hp,hE.run n h hw⟩
theorem jU (s:S) (P:V→Prop) (f:List V→S→bB) (c:(List V→S→bB)→bB):bW s P (jn f c)=bW s P (c f):=propext ⟨id,id⟩
theorem xL {l:List Int} (h:bytes l):0≤vl l:=(mn h).1
theorem CP {d:Int} {l:List Int} (h:bytes (d::l)):(0≤d∧d≤255)∧bytes l:=⟨h d (List.mem_cons_self ..),fun x hx=>h x (List.mem_cons_of_mem _ hx)⟩
theorem Iw {m:Nat} (h:m≠0):dg m≠ []:=by rw [iJ h];simp
theorem Ix: ∀ {l:List Int},bytes l→trim l→dg (vl l).toNat=l
 | [],_,_=>gP
 |d::l,h,ht=>by
  have h':=CP h
  have ih:=Ix h'.2 (AI ht)
  have hn:=xL h'.2
  have hne:vl (d::l)≠0:=by
   simp only [vl]
   cases l with
   |nil=>have:=ht (by simp);simp [vl] at this ⊢;exact this
   |cons e l=>
    have:(vl (e::l)).toNat≠0:=by
     intro h0;rw [h0,gP] at ih;cases ih
    omega
  have hp:0≤vl (d::l):=xL h
  rw [iJ (by omega)]
  simp only [vl] at hp hne ⊢
  have e1:(d+256*vl l).toNat % 256=d.toNat:=by omega
  have e2:(d+256*vl l).toNat / 256=(vl l).toNat:=by omega
  rw [e1,e2,ih]
  congr 1;omega
theorem FD: ∀(a b:List Int),vl (a++b)=vl a+256 ^ a.length*vl b
 | [],b=>by simp [vl]
 |d::a,b=>by
  simp only [List.cons_append,vl,FD a b,List.length_cons,Int.pow_succ]
  grind
theorem Dc {l:List Int} (h:bytes l) (hl:l≠ []) (h0:l.getD (l.length - 1) 0=0):(dg (vl l).toNat).length<l.length:=by
 have hlen:0<l.length:=List.length_pos_iff.2 hl
 have e:l=l.take (l.length - 1)++ [0]:=by
  have:=fR l 0 (i:=l.length - 1) (by omega)
  rw [h0,List.drop_eq_nil_of_le (show l.length≤l.length - 1+1 by omega)] at this
  have e:=List.take_append_drop (l.length - 1) l
  rw [this] at e
  exact e.symm
 have h1:vl l=vl (l.take (l.length - 1)):=by
  conv=>lhs;rw [e]
  rw [FD];simp [vl]
 have h2:=mn (cP (l.length - 1) h)
 rw [List.length_take,Nat.min_eq_left (by omega)] at h2
 have h3:=lO (l.length - 1) (vl l).toNat (by
  rw [h1]
  have:(256:Int) ^ (l.length - 1)=((256 ^ (l.length - 1):Nat):Int):=by simp
  omega)
 omega
theorem rev_last (l:List Int):l.reverse.getD (l.length - 1) 0=l.getD 0 0:=by
 cases l with
 |nil=>rfl
 |cons x l=>simp [List.getD_eq_getElem?_getD]
theorem zD {b:List Int} (hb:bytes b) {k:Nat} (hk:k+1≤b.length) {f:Int→Int} (hf: ∀x,0≤x→x≤255→0≤f x∧f x≤255) (yz: ∀x,f (f x)=x) {h:Nat→Int} (h0:b.getD 0 0=h k):
  (h (dg (vl (((b.take (k+1)).drop 1).map f).reverse).toNat).length::(dg (vl (((b.take (k+1)).drop 1).map f).reverse).toNat).reverse.map f=b.take (k+1))↔ ¬(0<k∧f (b.getD 1 0)=0):=by
 have hL:((b.take (k+1)).drop 1).length=k:=by rw [List.length_drop,List.length_take];omega
 have hB:=ja (iZ hf (bP 1 (cP (k+1) hb)))
 have h1:0<k→((((b.take (k+1)).drop 1).map f).reverse).getD (k - 1) 0=f (b.getD 1 0):=by
  intro vE
  have e:=rev_last (((b.take (k+1)).drop 1).map f)
  rw [List.length_map,hL] at e
  rw [e]
  match b,hk with
  |x::y::t,_=>
   obtain ⟨j,rfl⟩: ∃j,k=j+1:=⟨k - 1,by omega⟩
   simp
  | [x],h=>simp at h;omega
 have e:b.take (k+1)=b.getD 0 0::(b.take (k+1)).drop 1:=by
  have:=fR (b.take (k+1)) 0 (i:=0) (by rw [List.length_take];omega)
  rw [List.drop_zero] at this
  have h2:(b.take (k+1)).getD 0 0=b.getD 0 0:=by simp [List.getD_eq_getElem?_getD,List.getElem?_take]
  rw [h2] at this
  exact this
 generalize hR:(((b.take (k+1)).drop 1).map f).reverse=R at hB h1
 have TX:R.length=k:=by rw [←hR];simpa using hL
 constructor
 ·intro he ⟨vE,hz⟩
  have h3:=Dc hB (List.ne_nil_of_length_pos (by omega)) (by rw [TX,h1 vE,hz])
  have:=congrArg List.length he
  rw [List.length_cons,List.length_map,List.length_reverse,List.length_take] at this
  omega
 ·intro hn
  have ht:trim R:=fun hne=>by
   have vE:0<k:=by rw [←TX];exact List.length_pos_iff.2 hne
   rw [TX,h1 vE]
   exact fun hz=>hn ⟨vE,hz⟩
  rw [Ix hB ht,TX,←h0]
  conv=>rhs;rw [e]
  congr 1
  rw [←hR,List.reverse_reverse,List.map_map]
  conv=>rhs;rw [←List.map_id ((b.take (k+1)).drop 1)]
  apply List.map_congr_left
  intro x _
  exact yz x
end Go.Vm.X
end
noncomputable section
namespace Go.Vm.X
open Go
section
variable {U V p X Y ul vl g:Int}
theorem I1 (hU:U=p*X+ul) (hV:V=p*Y+vl) (hu:ul<p) (hv:0≤vl) (hp:1≤p) (hg:0≤g) (h:X+1≤g*Y):U<g*V:=by
 have h1:p*(X+1)≤p*(g*Y):=Int.mul_le_mul_of_nonneg_left h (by omega)
 have h2:0≤g*vl:=Int.mul_nonneg hg hv
 have h3:g*V=p*(g*Y)+g*vl:=by rw [hV];grind
 rw [Int.mul_add,Int.mul_one] at h1
 omega
theorem I0 (hU:U=p*X+ul) (hV:V=p*Y+vl) (hu:0≤ul) (hv:0≤vl) (ji:vl<p) (hg:0≤g) (Hw:g≤1000000000) (hb:1000000000*p≤V) (h:g*Y≤X):g*V≤U+V:=by
 have h1:p*(g*Y)≤p*X:=Int.mul_le_mul_of_nonneg_left h (by omega)
 have h2:g*vl≤1000000000*vl:=Int.mul_le_mul_of_nonneg_right Hw hv
 have h3:g*V=p*(g*Y)+g*vl:=by rw [hV];grind
 omega
end
section
variable {top r u2 v1 v2 g:Int}
theorem Eu (h:g*v1+r=top) (hr:r<v1) (hu:u2<1000000000) (hv:0≤v2) (hg:0≤g):top*1000000000+u2+1≤(g+1)*(v1*1000000000+v2):=by
 have h1:0≤(g+1)*v2:=Int.mul_nonneg (by omega) hv
 have h2:(g+1)*(v1*1000000000+v2)=(g*v1)*1000000000+v1*1000000000+(g+1)*v2:=by grind
 omega
theorem HR (h:g*v1+r=top) (hc:r*1000000000+u2<g*v2):top*1000000000+u2+1≤g*(v1*1000000000+v2):=by
 have h2:g*(v1*1000000000+v2)=(g*v1)*1000000000+g*v2:=by grind
 omega
theorem Aq (h:g*v1+r=top) (hc:g*v2≤r*1000000000+u2):g*(v1*1000000000+v2)≤top*1000000000+u2:=by
 have h2:g*(v1*1000000000+v2)=(g*v1)*1000000000+g*v2:=by grind
 omega
end
theorem Ev {b:Int} (h1:1≤b) (h2:b<1000000000):500000000≤1000000000 / (b+1)*b∧1≤1000000000 / (b+1)∧1000000000 / (b+1)*(b+1)≤1000000000:=by
 have h3:=Int.mul_ediv_add_emod 1000000000 (b+1)
 have h4:=Int.emod_lt_of_pos 1000000000 (show 0<b+1 by omega)
 have h5:=Int.emod_nonneg 1000000000 (show b+1≠0 by omega)
 generalize 1000000000 / (b+1)=d at*
 generalize 1000000000 % (b+1)=e at*
 have hd:1≤d:=by
  rcases (show d<1∨1≤d by omega) with h|h
  ·have:(b+1)*d≤(b+1)*0:=Int.mul_le_mul_of_nonneg_left (by omega) (by omega)
   omega
  ·exact h
 have hc:d*(b+1)=(b+1)*d:=Int.mul_comm _ _
 refine ⟨?_,hd,by omega⟩
 by_cases hb:500000000≤b
 ·have:1*b≤d*b:=Int.mul_le_mul_of_nonneg_right hd (by omega)
  omega
 ·by_cases gj:d<2
  ·have:d=1:=by omega
   subst this;omega
  ·
   rcases (show d*b<500000000∨500000000≤d*b by omega) with h|h
   ·exfalso
    have e1:(b+1)*d=d*b+d:=by grind
    have h6:500000001≤d+b:=by omega
    have h7:0≤(d - 1)*(b - 1):=Int.mul_nonneg (by omega) (by omega)
    have e2:(d - 1)*(b - 1)=d*b - (d+b)+1:=by grind
    omega
   ·exact h
theorem uX {x b q:Int} (hb:0<b) (h1:q*b≤x) (h2:x<(q+1)*b):x / b=q∧x % b=x - q*b:=by
 have e:x=(x - q*b)+b*q:=by rw [Int.mul_comm b q];omega
 have h3:(q+1)*b=q*b+b:=by grind
 constructor
 ·rw [e,Int.add_mul_ediv_left _ _ (by omega),Int.ediv_eq_zero_of_lt (by omega) (by omega)];omega
 ·rw [Int.emod_def]
  have:x / b=q:=by rw [e,Int.add_mul_ediv_left _ _ (by omega),Int.ediv_eq_zero_of_lt (by omega) (by omega)];omega
  rw [this,Int.mul_comm b q]
theorem carry (v:Int) (P:Int):P*(v % 1000000000)+1000000000*P*(v / 1000000000)=P*v:=by
 have:=Int.mul_ediv_add_emod v 1000000000
 conv=>rhs;rw [←this]
 grind
end Go.Vm.X
end
noncomputable section
namespace Go.Vm.X
open Go
theorem wC (f g:Int→Int) (k:Int) (b:List Int):gK f g k b=(0,0,2)∨gK f g k b=(0,0,3)∨
  (k≤8∧k<b.length∧ ¬(0<k∧f (b.getD 1 0)=0)∧vl (((b.take (k.toNat+1)).drop 1).map f).reverse≤9223372036854775807∧gK f g k b=(g (vl (((b.take (k.toNat+1)).drop 1).map f).reverse),k+1,0)):=by
 unfold gK
 by_cases h1:8<k
 ·exact .inl (if_pos h1)
 rw [if_neg h1]
 by_cases h2:(b.length:Int)≤k
 ·exact .inr (.inl (if_pos h2))
 rw [if_neg h2]
 by_cases h3:0<k∧f (b.getD 1 0)=0
 ·exact .inl (if_pos h3)
 rw [if_neg h3]
 by_cases h4:9223372036854775807<vl (((b.take (k.toNat+1)).drop 1).map f).reverse
 ·exact .inl (if_pos h4)
 rw [if_neg h4]
 exact .inr (.inr ⟨by omega,by omega,h3,by omega,rfl⟩)
theorem wA {b:List Int} (hb:bytes b):gI b=(0,0,2)∨gI b=(0,0,3)∨
  ∃(k:Nat) (f g:Int→Int),k≤8∧k+1≤b.length∧((b.getD 0 0=127 - (k:Int)∧f=(fun d=>255 - d)∧g=fun m=> -1 - m)∨(b.getD 0 0=128+(k:Int)∧f=id∧g=id))∧
   ¬(0<k∧f (b.getD 1 0)=0)∧vl (((b.take (k+1)).drop 1).map f).reverse≤9223372036854775807∧gI b=(g (vl (((b.take (k+1)).drop 1).map f).reverse),(k:Int)+1,0):=by
 unfold gI
 by_cases h0:b.length=0
 ·exact .inr (.inl (if_pos h0))
 rw [if_neg h0]
 have hr:=hb _ (dh b 0 (show 0<b.length by omega))
 by_cases h1:b.getD 0 0<128
 ·rw [if_pos h1]
  rcases wC (fun d=>255 - d) (fun m=> -1 - m) (255 - b.getD 0 0 - 128) b with h|h|⟨h2,h3,h4,h5,h6⟩
  ·exact .inl h
  ·exact .inr (.inl h)
  ·have hk:((255 - b.getD 0 0 - 128).toNat:Int)=255 - b.getD 0 0 - 128:=Int.toNat_of_nonneg (by omega)
   rw [←hk] at h6
   refine .inr (.inr ⟨(255 - b.getD 0 0 - 128).toNat,_,_,by omega,by omega,.inl ⟨by omega,rfl,rfl⟩,fun h=>h4 ⟨by omega,h.2⟩,h5,?_⟩)
   rw [hk] at h6
   rw [h6,hk]
 ·rw [if_neg h1]
  rcases wC id id (b.getD 0 0 - 128) b with h|h|⟨h2,h3,h4,h5,h6⟩
  ·exact .inl h
  ·exact .inr (.inl h)
  ·have hk:((b.getD 0 0 - 128).toNat:Int)=b.getD 0 0 - 128:=Int.toNat_of_nonneg (by omega)
   refine .inr (.inr ⟨(b.getD 0 0 - 128).toNat,_,_,by omega,by omega,.inr ⟨by omega,rfl,rfl⟩,fun h=>h4 ⟨by omega,h.2⟩,h5,?_⟩)
   rw [h6,hk]
theorem SE {f:Int→Int} (h:f=(fun d=>255 - d)∨f=id):(∀x,0≤x→x≤255→0≤f x∧f x≤255)∧ ∀x,f (f x)=x:=by
 rcases h with rfl|rfl
 ·exact ⟨fun x h1 h2=>by simp only [];omega,fun x=>by simp only [];omega⟩
 ·exact ⟨fun x h1 h2=>⟨h1,h2⟩,fun x=>rfl⟩
theorem kU {b:List Int} (hb:bytes b) (h:(gI b).2.2=0):fk (gI b).1∧1≤(gI b).2.1∧(gI b).2.1≤9∧(gI b).2.1≤b.length∧dH (gI b).1=b.take (gI b).2.1.toNat:=by
 rcases wA hb with h1|h1|⟨k,f,g,hk,hl,hs,hn,hm,h1⟩
 ·rw [h1] at h;cases h
 ·rw [h1] at h;cases h
 ·have hf:=SE (f:=f) (hs.imp (·.2.1) (·.2.1))
  have Ah:=xL (ja (iZ hf.1 (bP 1 (cP (k+1) hb))))
  have wJ:=zD (f:=f) hb hl hf.1 hf.2 (h:=if b.getD 0 0<128 then fun n=>127 - (n:Int) else fun n=>128+(n:Int)) (by
   rcases hs with h|h
   ·rw [if_pos (by omega)];exact h.1
   ·rw [if_neg (by omega)];exact h.1)
  rw [h1]
  generalize vl (((b.take (k+1)).drop 1).map f).reverse=M at hm Ah wJ
  simp only []
  have hE:dH (g M)=(if b.getD 0 0<128 then fun n:Nat=>127 - (n:Int) else fun n=>128+(n:Int)) (dg M.toNat).length::(dg M.toNat).reverse.map f:=by
   unfold dH mag
   rcases hs with ⟨h2,rfl,rfl⟩|⟨h2,rfl,rfl⟩
   ·simp only [show b.getD 0 0<128 by omega,show -1 - M<0 by omega, ↓reduceIte,show -1 - (-1 - M)=M by omega]
   ·simp only [id,show ¬b.getD 0 0<128 by omega,show ¬M<0 by omega, ↓reduceIte];rfl
  refine ⟨?_,by omega,by omega,by omega,?_⟩
  ·rcases hs with ⟨h2,rfl,rfl⟩|⟨h2,rfl,rfl⟩<;>simp only [id]<;>constructor<;>omega
  ·rw [hE,show ((k:Int)+1).toNat=k+1 by omega];exact wJ.2 hn
theorem Ka {b:List Int} (hb:bytes b) (h:(gI b).2.2≠0):gI b=(0,0,2)∨gI b=(0,0,3):=by
 rcases wA hb with h1|h1|⟨k,f,g,hk,hl,hs,hn,hm,h1⟩
 ·exact .inl h1
 ·exact .inr h1
 ·rw [h1] at h;exact absurd rfl h
theorem vP (p q:List Int) {i:Nat} (h:i<p.length):(p++q).getD i 0=p.getD i 0:=by
 simp [List.getD_eq_getElem?_getD,List.getElem?_append_left h]
theorem fc {p q:List Int} (hp:bytes p) (hq:bytes q):bytes (p++q):=fun x hx=>(List.mem_append.1 hx).elim (hp x) (hq x)
theorem Pg (m:Nat):bytes (dg m):=q6 m m (Nat.le_refl _)
theorem Jh: ∀(n m:Nat),m≤n→vl (dg m)=m
 |n,m,hm=>by
  by_cases h:m=0
  ·subst h;rw [gP];rfl
  ·rw [iJ h]
   cases n with
   |zero=>omega
   |succ n=>rw [vl,Jh n _ (by omega)];omega
theorem zx: ∀(n m:Nat),m≤n→trim (dg m)
 |n,m,hm=>by
  by_cases h:m=0
  ·subst h;rw [gP];exact fun h=>absurd rfl h
  ·intro _
   rw [iJ h]
   cases n with
   |zero=>omega
   |succ n=>
    by_cases h1:m / 256=0
    ·rw [h1,gP];simp;omega
    ·have:=zx n (m / 256) (by omega) (Iw h1)
     have hl:0<(dg (m / 256)).length:=List.length_pos_iff.2 (Iw h1)
     rw [List.length_cons,Nat.add_sub_cancel,show (dg (m / 256)).length=(dg (m / 256)).length - 1+1 by omega,List.getD_cons_succ]
     exact this
theorem ra {n:Int} (h:fk n):bytes (dH n):=by
 intro x hx
 unfold dH at hx
 have hl:=lO 8 (mag n) (by have:=yK h.1 h.2;omega)
 rcases List.mem_cons.1 hx with rfl|hx
 ·split<;>omega
 ·obtain ⟨d,hd,rfl⟩:=List.mem_map.1 hx
  have:=Pg (mag n) d (List.mem_reverse.1 hd)
  split<;>omega
theorem Dz {n:Int} (h:fk n) (q:List Int):gI (dH n++q)=(n,((dH n).length:Int),0):=by
 have hm:=yK h.1 h.2
 have hl:=lO 8 (mag n) (by omega)
 have ht:=zx (mag n) (mag n) (Nat.le_refl _)
 have hv:=Jh (mag n) (mag n) (Nat.le_refl _)
 have Ah:(n<0∧ -1 - (mag n:Int)=n)∨(¬n<0∧(mag n:Int)=n):=by unfold mag;split<;>omega
 have hlen:=lQ n
 suffices hs: ∀f g:Int→Int,(∀x,f (f x)=x)→dH n=(dH n).getD 0 0::(dg (mag n)).reverse.map f→g (mag n)=n→gK f g ((dg (mag n)).length:Int) (dH n++q)=(n,((dH n).length:Int),0) by
  unfold gI
  rw [if_neg (by rw [List.length_append];omega),vP _ _ (by omega)]
  rcases Ah with ⟨hn,hg⟩|⟨hn,hg⟩
  ·have e:dH n=(127 - ((dg (mag n)).length:Int))::(dg (mag n)).reverse.map (fun d=>255 - d):=by unfold dH;simp only [hn, ↓reduceIte]
   have e0:(dH n).getD 0 0=127 - ((dg (mag n)).length:Int):=by rw [e];rfl
   rw [e0,if_pos (by omega),show 255 - (127 - ((dg (mag n)).length:Int)) - 128=((dg (mag n)).length:Int) by omega]
   exact hs _ _ (fun x=>by show 255 - (255 - x)=x;omega) (by rw [e0];exact e) hg
  ·have e:dH n=(128+((dg (mag n)).length:Int))::(dg (mag n)).reverse.map id:=by unfold dH;simp only [hn, ↓reduceIte];rfl
   have e0:(dH n).getD 0 0=128+((dg (mag n)).length:Int):=by rw [e];rfl
   rw [e0,if_neg (by omega),show 128+((dg (mag n)).length:Int) - 128=((dg (mag n)).length:Int) by omega]
   exact hs _ _ (fun x=>rfl) (by rw [e0];exact e) hg
 intro f g yz he hg
 have h1:((dH n++q).take ((dg (mag n)).length+1)).drop 1=(dg (mag n)).reverse.map f:=by
  rw [List.take_append_of_le_length (by omega),List.take_of_length_le (by omega),he];rfl
 have h2:((((dH n++q).take ((dg (mag n)).length+1)).drop 1).map f).reverse=dg (mag n):=by
  rw [h1,List.map_map]
  have:(f ∘ f)=id:=funext yz
  rw [this,List.map_id,List.reverse_reverse]
 unfold gK
 rw [if_neg (by omega),if_neg (by rw [List.length_append];omega),if_neg,Int.toNat_natCast,h2,hv,if_neg (by omega),hg,hlen]
 ·rfl
 ·rintro ⟨h3,h4⟩
  have h5:(dH n++q).getD 1 0=f ((dg (mag n)).getD ((dg (mag n)).length - 1) 0):=by
   rw [vP _ _ (by omega),he,List.getD_cons_succ]
   have:=rev_last (dg (mag n)).reverse
   rw [List.reverse_reverse,List.length_reverse] at this
   rw [this]
   cases hd:(dg (mag n)).reverse with
   |nil=>have:=congrArg List.length hd;simp at this;rw [this] at h3;simp at h3
   |cons x t=>rfl
  rw [h5,yz] at h4
  exact ht (List.ne_nil_of_length_pos (by omega)) h4
def gC (b:List Int):Int×Int×Int:=
 if (gI b).2.2≠0 then (0,0,(gI b).2.2) else if (gI b).1<0 then (0,0,2) else if (b.length:Int) - (gI b).2.1<(gI b).1 then (0,0,3) else gI b
def gR:Nat→List Int→List Int×Int×Int
 |0,_=>([],0,0)
 |k+1,c=>if (gI c).2.2≠0 then ([],0,(gI c).2.2) else
   if (gR k (c.drop (gI c).2.1.toNat)).2.2≠0 then ([],0,(gR k (c.drop (gI c).2.1.toNat)).2.2) else
   ((gI c).1::(gR k (c.drop (gI c).2.1.toNat)).1,(gI c).2.1+(gR k (c.drop (gI c).2.1.toNat)).2.1,0)
def gF (o:List Int) (i:Int) (r:List Int×Int×Int):List Int×Int×Int:=if r.2.2≠0 then ([],0,r.2.2) else (o++r.1,i+r.2.1,0)
def gL (b:List Int):List Int×Int×Int:=if (gC b).2.2≠0 then ([],0,(gC b).2.2) else gF [] (gC b).2.1 (gR (gC b).1.toNat (b.drop (gC b).2.1.toNat))
theorem zV (o:List Int) (i:Int) (k:Nat) (c:List Int) (h:(gI c).2.2=0):gF o i (gR (k+1) c)=gF (o++ [(gI c).1]) (i+(gI c).2.1) (gR k (c.drop (gI c).2.1.toNat)):=by
 by_cases h1:(gR k (c.drop (gI c).2.1.toNat)).2.2=0
 ·have e:gR (k+1) c=((gI c).1::(gR k (c.drop (gI c).2.1.toNat)).1,(gI c).2.1+(gR k (c.drop (gI c).2.1.toNat)).2.1,0):=by
   conv=>lhs;unfold gR
   rw [if_neg (by omega),if_neg (by omega)]
  rw [e]
  unfold gF
  rw [if_neg (by simp),if_neg (by omega)]
  simp only [List.append_assoc,Int.add_assoc];rfl
 ·have e:gR (k+1) c=([],0,(gR k (c.drop (gI c).2.1.toNat)).2.2):=by
   conv=>lhs;unfold gR
   rw [if_neg (by omega),if_pos h1]
  rw [e]
  unfold gF
  rw [if_pos h1,if_pos h1]
theorem Dy (o:List Int) (i:Int) (k:Nat) (c:List Int) (h:(gI c).2.2≠0):gF o i (gR (k+1) c)=([],0,(gI c).2.2):=by
 unfold gR
 rw [if_pos h]
 unfold gF
 rw [if_pos h]
theorem zU {b:List Int} (hb:bytes b) (h:(gC b).2.2=0):gC b=gI b∧(gI b).2.2=0∧0≤(gI b).1∧(gI b).1≤b.length - (gI b).2.1:=by
 unfold gC at h ⊢
 split at h
 ·rename_i h1;exact absurd h h1
 ·rename_i h1
  rw [if_neg h1]
  split at h
  ·cases h
  ·rename_i h2
   rw [if_neg h2]
   split at h
   ·cases h
   ·rename_i h3
    rw [if_neg h3]
    exact ⟨rfl,h,by omega,by omega⟩
end Go.Vm.X
end
noncomputable section
namespace Go.Vm.X
open Go
theorem ca {s₀ s:S} (cs:List V) (t:Nat) (hl:Loc s₀ s): ∃s',aq s (aT cs t (aw s))=some (.ptr s.n 0,s')∧dX s₀ s' s.n cs t false∧Loc s₀ s'∧Kp s s' []∧s'.n=s.n+1:=by
 have h0:=hl.n
 have h1:=hl.fx
 have h2:=hl.wm
 refine ⟨_,rfl,⟨h0,by simp [newObj,aw],by simp only [newObj,aw];exact Tr.aQ _ _ _⟩,⟨by simp only [newObj,aw];omega,by simp only [newObj,aw];omega,by simp only [newObj,aw];omega⟩,
  ⟨by simp only [newObj,aw];omega,fun c hc _=>by simp only [newObj,aw];rw [Tr.aK _ _ (by omega)]⟩,rfl⟩
theorem dt (t:Nat) (cs:List V) (s:S):bM t (.agg cs) s=aT cs t s:=rfl
theorem cS (o b:Nat):aJ o (.ptr b 0)=some (.ptr b o):=by simp [aJ]
section
variable {s₀ s:S} {b t:Nat} {bL:Bool}
theorem eV {b j n:Nat} {cs:List V} (h:Rd s b cs) (hj:j+n≤cs.length):aD n s (.ptr b j)=some (.agg ((cs.drop j).take n)):=by
 obtain ⟨e,bL,own,hg⟩:=h
 unfold aD rd
 simp only [jZ hg hj]
theorem dX.r2 {x y:V} (h:dX s₀ s b [x,y] t bL):aM s (.ptr b 0)=some x∧aM s (.ptr b 1)=some y∧aD 2 s (.ptr b 0)=some (.agg [x,y]):=
 ⟨fI h.rd (by simp),fI h.rd (by simp),eV h.rd (by simp)⟩
theorem dX.r4 {x y z w:V} (h:dX s₀ s b [x,y,z,w] t bL):aM s (.ptr b 0)=some x∧aM s (.ptr b 1)=some y∧aM s (.ptr b 2)=some z∧aM s (.ptr b 3)=some w∧
  aD 2 s (.ptr b 0)=some (.agg [x,y])∧aD 2 s (.ptr b 2)=some (.agg [z,w])∧aD 4 s (.ptr b 0)=some (.agg [x,y,z,w]):=
 ⟨fI h.rd (by simp),fI h.rd (by simp),fI h.rd (by simp),fI h.rd (by simp),eV h.rd (by simp),eV h.rd (by simp),eV h.rd (by simp)⟩
theorem dX.put {cs l:List V} {z:Nat} (h:dX s₀ s b cs t bL) (hl:Loc s₀ s) (hz:l.length=z) (hc:cs.length=z) (hx:l.all aR=true):
  ∃s',aq s (aB z (.ptr b 0) (.agg l) (aw s))=some (.bad,s')∧dX s₀ s' b l t bL∧Loc s₀ s'∧Kp s s' [b]∧s'.n=s.n:=by
 obtain ⟨s',e1,b1,l1,k1,n1⟩:=h.write hl (j:=0) (l:=l) (by omega) hx
 refine ⟨s',?_,?_,l1,k1,n1⟩
 ·rw [←e1 .bad]
  have:Nat.beq l.length z=true:=by rw [Nat.beq_eq];exact hz
  simp only [aB,bc,this]
  cases fN (aw s) b 0 l<;>rfl
 ·have:bY cs 0 l=l:=by
   unfold bY
   rw [List.take_zero,List.nil_append,List.drop_eq_nil_of_le (by omega),List.append_nil]
  rwa [this] at b1
theorem dX.qo {cs:List V} {x:V} {j:Nat} (h:dX s₀ s b cs t bL) (hl:Loc s₀ s) (hj:j<cs.length) (hx:aR x=true):
  ∃s',aq s (aB 1 (.ptr b j) x (aw s))=some (.bad,s')∧dX s₀ s' b (cs.set j x) t bL∧Loc s₀ s'∧Kp s s' [b]∧s'.n=s.n:=by
 obtain ⟨s',e1,b1,l1,k1,n1⟩:=h.write hl (j:=j) (l:= [x]) (by simp;omega) (by simp [hx])
 refine ⟨s',?_,?_,l1,k1,n1⟩
 ·rw [←e1 .bad,AH hx]
 ·rwa [ve _ _ hj] at b1
end
theorem yY {x:V} (h:aR x=true):bc x= [x]∧x≠ .bad:=by cases x<;>first|(cases h;done)|exact ⟨rfl,by simp⟩
theorem ga {x:V} (hx:aR x=true) (cs:List V) (o:Nat) (ho:o<cs.length) (r:List (Nat×Nat×V)):aI cs ((o,1,x)::r)=aI (cs.set o x) r:=by
 have h:=yY hx
 have h1:(Nat.beq (bc x).length 1 && Nat.ble (o+1) cs.length)=true:=by
  rw [Bool.and_eq_true,Nat.beq_eq,Nat.ble_eq,h.1];exact ⟨rfl,ho⟩
 conv=>lhs;unfold aI
 split
 ·exact absurd rfl h.2
 ·rw [h1];simp only [h.1,ve _ _ ho]
theorem mv {v:V} (h:atom v=true):aR v=true:=by
 unfold atom at h
 split at h<;>first|rfl|(cases h;done)
theorem Fs.aR {z:Nat} {v:V} {l:Nat} {cs:List V} (h:Fs z v l cs):X.aR v=true:=mv h.atom
theorem wj {x y a b:V} (hx:aR x=true) (hy:aR y=true):aI [a,b] [(0,1,x),(1,1,y)]=some (.agg [x,y]):=by
 rw [ga hx _ _ (by simp),ga hy _ _ (by simp)];rfl
theorem eB (cs:List V):aI cs []=some (.agg cs):=rfl
def CV (x:Int) (r:V):Prop:= ∃d,r= .agg [.bool (decide (x<0)),d]∧Is .i64 d (nd x.natAbs)
theorem CV.az {x:Int} {r:V} (h:CV x r):az r=true:=by
 obtain ⟨d,rfl,hd⟩:=h
 show (atom (.bool (decide (x<0))) && (atom d && true))=true
 rw [Is.atom hd];rfl
theorem CV.cm {x:Int} {r:V} (h:CV x r):cm r=true:=by
 obtain ⟨d,rfl,hd⟩:=h
 show (atom (.bool (decide (x<0))) && (atom d && true))=true
 rw [Is.atom hd];rfl
theorem I6 {m:Nat} (h:nd m= []):m=0:=by
 by_cases h':m=0
 ·exact h'
 ·exact absurd h (rN h')
def fm (neg:Bool) (x:Int):Int:=if neg then -x else x
theorem ik (neg:Bool) {x:Int} (h:0≤x):(fm neg x).natAbs=x.toNat:=by unfold fm;split<;>omega
theorem vc (neg:Bool) {x:Int} (h:0<x):decide (fm neg x<0)=neg:=by unfold fm;cases neg<;>simp<;>omega
theorem LA (m:Nat): ∀x,x∈nd m→fk x:=fun x hx=>by have:=cJ m x hx;unfold fk;omega
theorem tZ {l:List Int} {k:Nat} (hk:0<k) (h:l.getD (k - 1) 0=0) (hv:vb (l.take k)=vb l):vb (l.take (k - 1))=vb l:=by
 have:=nr l (k - 1)
 rw [show k - 1+1=k by omega,h,Int.mul_zero,Int.add_zero] at this
 omega
theorem xH {l:List Int} (hd:gu l) {k:Nat} (hk:0<k) (hkl:k≤l.length) (h:l.getD (k - 1) 0≠0) (hv:vb (l.take k)=vb l):nd (vb l).toNat=l.take k∧0<vb l:=by
 have h1:=Lz hd hkl hv (.inr h)
 refine ⟨h1,?_⟩
 have h2:=hJ hd
 rcases (show vb l=0∨0<vb l by omega) with h3|h3
 ·rw [h3] at h1
  have:(nd (0:Int).toNat)= []:=cG
  rw [this] at h1
  have:=congrArg List.length h1
  rw [List.length_take,List.length_nil] at this
  omega
 ·exact h3
end Go.Vm.X
end
