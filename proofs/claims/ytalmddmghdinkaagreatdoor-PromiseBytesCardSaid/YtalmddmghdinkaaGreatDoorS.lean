/-
  A part of the proof of PromiseBytes: lemmas, in short letters, printed by a program out of the longer texts; conditions: those that each lemma names.
-/
import Derived.Test.YtalmddmghdinkaaGreatDoorR
set_option linter.all false
set_option linter.deprecated false
noncomputable section
namespace Go.Vm.X
open Go Go.Vm Go.Proofs.bt
theorem I5 (k:IntKind) (a b:Int):EB false [.int k a,.int k b]=some (.int k (if b<a then b else a)):=rfl
theorem pO:iV.bytes=8:=rfl
theorem Pd {v:V} {l:List Int} (hv:Is .u8 v l) {m:Int} (hlen:(l.take m.toNat).length≤1000000000) (hm:0≤m):xM cx 26 [v,.int .i64 m] 5 1 (l.take m.toNat).length (Bs (l.take m.toNat)):=fun s hs=>
 (E26 (aE (by decide))).runN 0 (by
  show fE s 5 1 _ _ (S9 cx 0 v (.int .i64 m) s)
  unfold S9
  obtain ⟨w,hw,hi⟩:=hv.SG (q':= .i64) (hi:=if m<(l.length:Int) then m else (l.length:Int)) (by split<;>omega) (by split<;>omega)
  have ht:l.take (if m<(l.length:Int) then m else (l.length:Int)).toNat=l.take m.toNat:=by
   split
   ·rfl
   ·rw [Int.toNat_natCast,List.take_length,List.take_of_length_le (by omega)]
  rw [ht] at hi
  obtain ⟨x,s1,e1,o1,l1,_,_⟩:=CI (e:=5) (z:=1) (te:=iE) (Loc.refl hs) Ow.nil hi (dZ _ _) rfl (by decide) (by rw [dO];omega)
  simp (disch:=omega) only [jN,st,si,hv.len,I5,hw,e1]
  simp only [Nat.zero_add,List.nil_append] at o1
  exact eP hs l1 o1 (aS _ _)) (by omega)
theorem c47 {x y:V} {a b:List Int} (hx:Is .i64 x a) (hy:Is .i64 y b) (hl:a.length<9223372036854775807):jK cx 47 [x,y] (.bool (decide (a=b))):=fun s hs=>
 (E47 (aE (by decide))).run (a.length+1) (by
  show Tg cx _ x y s=_
  unfold Tg
  by_cases h:a.length=b.length
  ·simp (disch:=omega) only [jE,st,si,hx.len,hy.len]
   refine aP (fun r=>r=_) (fun k vs s'=> ∃i:Int,vs= [.int .i64 i,x,y]∧s'=s∧0≤i∧i+k=a.length∧ ∀j:Nat,j<i→a.getD j 0=b.getD j 0) ?_ _ a.length _ _ ⟨0,rfl,rfl,by omega,by omega,by omega⟩ (by omega)
   rintro ih k _ _ ⟨i,rfl,rfl,h0,h1,hp⟩ eZ
   by_cases hi:i<a.length
   ·simp (disch:=omega) only [jE,st,si,hx.len,hy.len,hx.ix,hy.ix,dW]
    by_cases he:a.getD i.toNat 0=b.getD i.toNat 0
    ·simp (disch:=omega) only [jE,st,he,br,not_true,ne_eq]
     refine eZ (k - 1) _ _ (by omega) ⟨i+1,rfl,rfl,by omega,by omega,fun j hj=> ?_⟩
     by_cases KY:(j:Int)=i
     ·rwa [show j=i.toNat by omega]
     ·exact hp j (by omega)
    ·rw [MQ _ _ (by exact he),aO rfl (by omega) (by omega),decide_eq_false (fun e=>he (by rw [e]))]
   ·simp (disch:=omega) only [jE,st,si,hx.len,hy.len]
    rw [aO rfl (by omega) (by omega),decide_eq_true (rn h fun j hj=>hp j (by omega))]
  ·simp (disch:=omega) only [jE,st,si,hx.len,hy.len]
   rw [aO rfl (by omega) (by omega),decide_eq_false (fun e=>h (by rw [e]))]) (by omega)
def xN (l:List Int) (i m:Int):Int:=if i<0∨l.length≤i then 0 else around (l.getD i.toNat 0) m
theorem Wj {v:V} {l:List Int} (hv:Is .i64 v l) (hr: ∀x,x∈l→fk x) (i m:Int) (hm:0<m) (sN:m≤9223372036854775807):jK cx 29 [v,.int .i64 i,.int .i64 m] (.int .i64 (xN l i m)):=fun s hs=>
 (E29 (aE (by decide))).run 0 (by
  show Tb cx 0 v (.int .i64 i) (.int .i64 m) s=_
  unfold Tb xN
  by_cases h:i<0∨l.length≤i
  ·rw [if_pos h]
   by_cases h0:i<0
   ·simp (disch:=omega) only [jE,st,si,hv.len]
    rw [aO rfl (by omega) (by omega)]
   ·simp (disch:=omega) only [jE,st,si,hv.len]
    rw [aO rfl (by omega) (by omega)]
  ·rw [if_neg h]
   have hx:=hr _ (dh l 0 (show i.toNat<l.length by omega))
   have e1:=bO (dr:=false) (st:=false) (c9 (l.getD i.toNat 0) m hx.1 hx.2 hm sN) rfl (s:=s) (by omega)
   simp (disch:=omega) only [jE,st,si,hv.len,hv.ix,dW,e1]
   rw [aO rfl (by omega) (by omega)]) (by omega)
theorem Pk {z:Nat} {v:V} {l:Nat} {cs:List V} (hv:Fs z v l cs):(v= .ah∧an .eql (Tr.get types 22) v .ah=some (.bool true))∨an .eql (Tr.get types 22) v .ah=some (.bool false):=by
 cases hv with
 |nil=>exact .inl ⟨rfl,rfl⟩
 |mk=>exact .inr rfl
theorem c45 {v:V} {l:List Int} (hv:Is .i64 v l) (hlen:l.length≤1000000000):xM cx 45 [v] 3 1 l.length (dk l):=fun s hs=>
 (E45 (aE (by decide))).runN 0 (by
  show fE s 3 1 _ _ (Tf cx 0 v s)
  unfold Tf
  rcases Pk hv with ⟨h,e⟩|e
  ·simp (disch:=omega) only [jN,st,si,e]
   subst h
   have hl:l= []:=by cases l with
    |nil=>rfl
    |cons _ _=>cases hv
   subst hl
   exact eP hs (Loc.refl hs) Ow.nil rfl
  ·simp (disch:=omega) only [jN,st,si,e]
   obtain ⟨x,s1,e1,o1,l1,k1,b1⟩:=qU (e:=3) (z:=1) (len:=0) (c:=bz 0 [(.int .i64 0)]) (ps:= []) (l:= []) (Loc.refl hs) rfl rfl
   obtain ⟨y,s2,e2,o2,l2,k2,b2⟩:=CI (te:=iV) l1 o1 hv (dZ _ _) rfl (by decide) (by rw [pO];omega)
   simp (disch:=omega) only [jN,st,si,e1,e2]
   simp only [Nat.zero_add,List.nil_append] at o2
   exact eP hs l2 o2 (aS _ _)) (by omega)
def G2 (l:List Int):ByteArray:=⟨(l.map fun n=>UInt8.ofNat n.toNat).toArray⟩
theorem oK: ∀l:List Int,eH (Bs l)=some (l.map fun n=>UInt8.ofNat n.toNat)
 | []=>rfl
 |n::l=>by
  show (match eH (Bs l) with
   |some l=>some (UInt8.ofNat n.toNat::l)
   |none=>none)=_
  rw [oK l];rfl
theorem vW {v:V} {l:List Int} (hv:Is .u8 v l) (s:S):df types 70 9 v s=some (.str (G2 l),s):=by
 unfold Is at hv
 generalize hc:l.map (V.int .u8)=cs at hv
 generalize hn:l.length=n at hv
 cases hv with
 |nil=>
  have:l= []:=List.length_eq_zero_iff.1 hn
  subst this
  rfl
 |mk cs n h=>
  have ht:takeN n cs=some cs:=by
   unfold takeN
   have:Nat.ble n cs.length=true:=by rw [Nat.ble_eq];omega
   simp only [this]
   rw [List.take_of_length_le (by omega)]
  show (match takeN n cs with
   |some l=>match eH l with
    |some bs=>some (V.str ⟨bs.toArray⟩,s)
    |none=>none
   |none=>none)=_
  rw [ht]
  simp only []
  rw [←hc,oK]
  rfl
theorem CO {a b:List Int} (ha:bytes a) (hb:bytes b):G2 a=G2 b↔a=b:=by
 constructor
 ·intro h
  have h1:(a.map fun n=>UInt8.ofNat n.toNat)=b.map fun n=>UInt8.ofNat n.toNat:=by
   have:=congrArg (fun x:ByteArray=>x.data.toList) h
   simpa [G2] using this
  have hl:a.length=b.length:=by simpa using congrArg List.length h1
  refine rn hl fun j hj=> ?_
  have h2:=congrArg (fun l=>l[j]?) h1
  simp only [List.getElem?_map,List.getElem?_eq_getElem hj,List.getElem?_eq_getElem (show j<b.length by omega),Option.map_some,Option.some.injEq] at h2
  have r1:=ha a[j] (List.getElem_mem hj)
  have r2:=hb b[j] (List.getElem_mem (show j<b.length by omega))
  have h3:=congrArg UInt8.toNat h2
  simp only [UInt8.toNat_ofNat'] at h3
  simp [hj,show j<b.length by omega]
  omega
 ·rintro rfl;rfl
theorem zq (bs:ByteArray): ∀(k i:Nat) (r:List UInt8),bs.size - i=k→ByteArray.toList.loop bs i r=r.reverse++bs.data.toList.drop i
 |0,i,r,h=>by
  rw [ByteArray.toList.loop,if_neg (by omega),List.drop_eq_nil_of_le (by show bs.data.size≤i;have:bs.data.size=bs.size:=rfl;omega),List.append_nil]
 |k+1,i,r,h=>by
  have hi:i<bs.data.toList.length:=by show i<bs.data.size;have:bs.data.size=bs.size:=rfl;omega
  have hg:bs.get! i=bs.data.toList[i]:=by
   show bs.data[i]! =_
   simp at hi
   simp [hi]
  rw [ByteArray.toList.loop,if_pos (by omega),zq bs k (i+1) _ (by omega),hg,List.drop_eq_getElem_cons hi]
  simp
theorem AV (bs:ByteArray):bs.toList=bs.data.toList:=by
 unfold ByteArray.toList
 rw [zq bs _ 0 [] rfl];simp
theorem eqStr (a b:ByteArray):an .eql (Tr.get types 9) (.str a) (.str b)=some (.bool (decide (a=b))):=by
 show lift (Vm.Ff .eql a b)=_
 unfold Vm.Ff
 simp only [lift,AV]
 show some (V.bool (a.data.toList == b.data.toList))=_
 congr 2
 by_cases h:a=b
 ·subst h;simp
 ·rw [decide_eq_false h,beq_eq_false_iff_ne]
  intro e
  exact h (ByteArray.ext (Array.ext' e))
theorem V1 {x y:V} {a b:List Int} (hx:Is .u8 x a) (hy:Is .u8 y b) (ha:bytes a) (hb:bytes b):jK cx 107 [x,y] (.bool (decide (a=b))):=fun s hs=>
 (Nu (aE (by decide))).run 0 (by
  show Ga cx 0 x y s=_
  unfold Ga
  have hf: ∀w,aq s (some (w,aw s))=some (w,s):=fun w=>my (by omega)
  rw [vW hx,hf,bS,vW hy,hf,bS,eqStr,bV,aO rfl (by omega) (by omega)]
  congr 3
  exact decide_eq_decide.2 (CO ha hb)) (by omega)
theorem c63 {x y:V} {a b:List Int} (hx:Is .u8 x a) (hy:Is .u8 y b) (ha:bytes a) (hb:bytes b) (hl:a.length<9223372036854775807) (fg:b.length<9223372036854775807):jK cx 63 [x,y] (.bool (decide (b.length≤a.length∧a.take b.length=b))):=fun s hs=>
 (E63 (aE (by decide))).run 0 (by
  show Tk cx 0 x y s=_
  unfold Tk
  by_cases h:b.length≤a.length
  ·obtain ⟨w,hw,hi⟩:=hx.SG (q':= .i64) (hi:=b.length) (by omega) (by omega)
   rw [Int.toNat_natCast] at hi
   have e1:=bO (dr:=false) (st:=true) (V1 hi hy (cP _ ha) hb) (by simp only [List.all_cons,List.all_nil,Bool.and_true,hi.az,hy.az]) (s:=s) (by omega)
   simp (disch:=omega) only [jE,st,si,hx.len,hy.len,hw,e1]
   have hg: ∀o:Option (V×S),fT (.bool true) true o s=o:=fun o=>rfl
   rw [show decide ((b.length:Int)≤(a.length:Int))=true from decide_eq_true (by omega),hg,bS]
   rw [aO rfl (by omega) (by omega)]
   congr 3
   exact decide_eq_decide.2 (by simp [h])
  ·simp (disch:=omega) only [jE,st,si,hx.len,hy.len]
   have hg: ∀o:Option (V×S),fT (.bool false) true o s=some (.dQ [],s):=fun o=>rfl
   rw [show decide ((b.length:Int)≤(a.length:Int))=false from decide_eq_false (by omega),hg,bS]
   rw [aO rfl (by omega) (by omega)]
   congr 3
   exact (decide_eq_false (fun e=>h e.1)).symm) (by omega)
theorem Ey:aN .ah=some (.int .i64 0):=rfl
theorem Jc (z:Nat) (k:IntKind):gE z .ah none (some (.int k 0)) none=some .ah:=by
 have:bound (some (.int k 0)) 0 0=some 0:=eM (by omega) (by omega)
 unfold gE
 simp only [show bound none 0 0=some 0 from rfl,this]
theorem Fs.shape {z:Nat} {v:V} {l:Nat} {cs:List V} (h:Fs z v l cs):v= .ah∨ ∃cs n,v= .iL cs n:=by
 cases h with
 |nil=>exact .inl rfl
 |mk cs l _=>exact .inr ⟨_,_,rfl⟩
theorem c99 {n:Nat} (hn:n≤1000000000) (s:S) (hs:s.wm=s.n):(n=0∧cx 99 [.ah,.int .i64 n] s=some (.ah,s))∨(0<n∧cx 99 [.ah,.int .i64 n] s=some (.sl s.n 0 0 n 1,newObj s (.cells (List.replicate n (.int .u8 0)) 5 true true))):=by
 have hcap: ∀t:S,CY t .ah=some (.int .i64 0):=fun t=>rfl
 by_cases h:n=0
 ·refine .inl ⟨h,(Vv (aE (by decide))).run 0 ?_ (by omega)⟩
  show MG cx 0 .ah (.int .i64 n) s=_
  unfold MG
  simp (disch:=omega) only [jE,st,si,hcap,Ey,br]
  exact aO rfl (by omega) (by omega)
 ·refine .inr ⟨by omega,(Vv (aE (by decide))).run 0 ?_ (by omega)⟩
  show MG cx 0 .ah (.int .i64 n) s=_
  unfold MG
  have hz:GN iE 5 .ah (.int .i64 n) (aw s)=some (.sl s.n 0 n n 1,newObj (aw s) (.cells (List.replicate n (.int .u8 0)) 5 true true)):=by
   show fO iE 5 (aw s) .ah (.int .i64 n)=_
   unfold fO
   simp only []
   rw [if_pos ⟨by omega,by rw [Int.toNat_natCast,dO];omega,by decide⟩,Int.toNat_natCast,show zero iE= [.int .u8 0] from rfl,I8]
   rfl
  have uI:gE 1 (.sl s.n 0 n n 1) none (some (.int .i64 0)) none=some (.sl s.n 0 0 n 1):=by
   have:bound (some (.int .i64 0)) n n=some 0:=eM (by omega) (by omega)
   unfold gE
   have h3:Nat.ble 0 n=true:=by rw [Nat.ble_eq];omega
   simp only [show bound none n n=some n from rfl,this,show bound none 0 0=some 0 from rfl,h3]
   rfl
  simp (disch:=omega) only [jE,st,si,hcap,Ey,br,Jc,Int.sub_zero,hz,aq,uI]
  obtain ⟨h',N,w⟩:=s
  simp only [] at hs
  subst hs
  unfold aC
  rw [iH rfl]
  simp only [nX,fi]
  unfold packed
  simp only [newObj,aw,Nat.min_self]
  have hc:(Nat.ble w w && Nat.ble w w)=true:=by simp
  simp only [hc]
  have hp:pack (⟨h',w,w⟩:S) ⟨h'.set w (.cells (List.replicate n (.int .u8 0)) 5 true true),w+1,w⟩ (.sl w 0 0 n 1)=some (.sl w 0 0 n 1,⟨h'.set w (.cells (List.replicate n (.int .u8 0)) 5 true true),w+1,w⟩):=by
   have ha: ∀t:S,jf (kB t 24) (List.replicate n (.int .u8 0))=some (List.replicate n (.int .u8 0), []):=fun t=>jS t 23 (by
    rw [List.all_eq_true];intro x hx;rw [List.eq_of_mem_replicate hx];rfl)
   have:Nat.ble w w=true:=by rw [Nat.ble_eq];exact Nat.le_refl _
   simp only [pack,Tr.aQ,ha,this,jy,At,List.all_nil,Bool.and_self,newObj]
  rw [hp]
inductive Jw (s₀ s:S) (n:Nat):V→List Int→Prop
 |nil (h:n=0):Jw s₀ s n .ah []
 |aF (b:Nat) (d:List Int) (hd:d.length≤n) (h:dX s₀ s b (Bs d++List.replicate (n - d.length) (.int .u8 0)) 5 true):Jw s₀ s n (.sl b 0 d.length n 1) d
theorem Jw.add {s₀ s:S} {n:Nat} {x y:V} {d l:List Int} (hl:Loc s₀ s) (hx:Jw s₀ s n x d) (hy:Is .u8 y l) (hn:d.length+l.length≤n):
  ∃v' s',aq s (bT iE 5 x y (aw s))=some (v',s')∧Jw s₀ s' n v' (d++l)∧Loc s₀ s':=by
 have hw:=hl.wm
 have hit:items iE (aw s) y=some (l.length,Bs l):=Fs.items hy rfl _
 have Kr:bT iE 5 x y (aw s)=cy iE 5 (aw s) x y:=by
  unfold bT
  rcases Fs.shape hy with rfl|⟨_,_,rfl⟩<;>cases hx<;>rfl
 rw [Kr]
 unfold cy
 rw [hit]
 cases hx with
 |nil h=>
  have:l= []:=List.length_eq_zero_iff.1 (by omega)
  subst this
  exact ⟨_,s,my hw,.nil h,hl⟩
 |aF b d hd h=>
  have t0:Nat.ble d.length n=true:=by rw [Nat.ble_eq];exact hd
  simp only [t0]
  cases l with
  |nil=>
   refine ⟨.sl b 0 d.length n 1,s,my hw,?_,hl⟩
   rw [List.append_nil];exact .aF b d hd h
  |cons a l=>
   have t1:Nat.ble (d.length+(l.length+1)) n=true:=by rw [Nat.ble_eq];simpa using hn
   simp only [List.length_cons] at hn ⊢
   simp only [t1]
   obtain ⟨s',e1,b1,l1,k1,_⟩:=h.write hl (j:=0+d.length*iE.size) (l:=Bs (a::l)) (by rw [xI];simp;omega) (dZ _ _)
   refine ⟨.sl b 0 (d.length+(l.length+1)) n 1,s',?_,?_,l1⟩
   ·rw [←e1]
    cases fN (aw s) b (0+d.length*iE.size) (Bs (a::l))<;>rfl
   ·have hlen:(d++(a::l)).length=d.length+(l.length+1):=by simp
    rw [←hlen]
    refine .aF b _ (by omega) ?_
    rw [xI,Nat.zero_add,Nat.mul_one] at b1
    have:bY (Bs d++List.replicate (n - d.length) (.int .u8 0)) d.length (Bs (a::l))=Bs (d++a::l)++List.replicate (n - (d++a::l).length) (.int .u8 0):=by
     unfold bY
     have hB:Bs (d++a::l)=Bs d++Bs (a::l):=List.map_append
     rw [hB,List.take_append_of_le_length (by simp),List.take_of_length_le (by simp),List.append_assoc,List.drop_append,List.drop_eq_nil_of_le (by simp),List.nil_append,List.drop_replicate]
     congr 3
     simp;omega
    rw [this] at b1
    exact b1
def UM (xs:List V) (ls:List (List Int)):Prop:=xs.length=ls.length∧ ∀i,i<xs.length→Is .u8 (xs.getD i .bad) (ls.getD i [])
theorem zN {α:Type} (ls:List (List α)) (i:Nat) (h:i<ls.length):(ls.take (i+1)).flatten=(ls.take i).flatten++ls.getD i []:=by
 have:ls.take (i+1)=ls.take i++ [ls.getD i []]:=by rw [List.take_add_one];simp [h]
 rw [this,List.flatten_append];simp
theorem uq {α:Type} (ls:List (List α)) (i:Nat):(ls.take i).flatten.length≤ls.flatten.length:=by
 conv=>rhs;rw [←List.take_append_drop i ls,List.flatten_append,List.length_append]
 omega
theorem c57 {v:V} {xs:List V} {ls:List (List Int)} (hv:Fs 1 v xs.length xs) (hx:UM xs ls) (hlen:ls.flatten.length≤1000000000) (hn:xs.length≤1000000000):xM cx 57 [v] 5 1 ls.flatten.length (Bs ls.flatten):=fun s hs=>
 (E57 (aE (by decide))).runN (xs.length+1) (by
  show fE s 5 1 _ _ (Ti cx _ v s)
  unfold Ti
  obtain ⟨Lt,hxi⟩:=hx
  have Bm: ∀(t:S) (i:Nat),i<xs.length→aM t (.dS (xs.drop (i*1)))=some (xs.getD i .bad):=fun t i hi=>by
   rw [Nat.mul_one];exact Q7 t hi
  simp (disch:=omega) only [jN,st,si,hv.len]
  refine aP (fE s 5 1 _ _) (fun k vs t=> ∃i:Nat,vs= [.int .i64 i,.int .i64 (xs.length:Int),v,.int .i64 ((ls.take i).flatten.length:Int),v]∧s=t∧i+k=xs.length) ?_ _ xs.length _ _ ⟨0,rfl,rfl,by omega⟩ (by omega)
  rintro ih k _ _ ⟨i,rfl,rfl,hk⟩ eZ
  have hle:=uq ls i
  by_cases hi:i<xs.length
  ·have K0:=uq ls (i+1)
   have uE:=congrArg List.length (zN ls i (by omega))
   rw [List.length_append] at uE
   simp (disch:=omega) only [jN,st,si,hv.ix,Bm _ _ hi,(hxi i hi).len,br]
   refine eZ (k - 1) _ _ (by omega) ⟨i+1,?_,rfl,by omega⟩
   rw [uE];rfl
  ·have DX:ls.take i=ls:=List.take_of_length_le (by omega)
   simp (disch:=omega) only [jN,st,si,DX]
   have Xu:=c99 (n:=ls.flatten.length) hlen s hs
   generalize hT:ls.flatten.length=n at*
   have eY: ∃x s1,au cx false false (.fn 99 [] []) [.ah,.int .i64 (n:Int)] s=some (x,s1)∧Jw s s1 n x []∧Loc s s1:=by
    unfold au
    rw [show ([.ah,.int .i64 (n:Int)]:List V).any dB=false from rfl]
    simp only [List.nil_append,List.append_nil]
    rw [ib _ (by rfl)]
    simp only []
    have BA:({ s with wm:=s.n } :S)=s:=S.eta hs
    rw [BA]
    rcases Xu with ⟨h0,e⟩|⟨h0,e⟩<;>rw [e]
    ·exact ⟨_,_,rfl,.nil h0,⟨by simp only [];omega,by simp only [least];omega,by simp only [least];omega⟩⟩
    ·refine ⟨_,_,rfl,.aF s.n [] (by simp) ⟨Nat.le_refl _,by simp [newObj],?_⟩,⟨by simp only [newObj];omega,by simp only [newObj,least];omega,by simp only [newObj,least];omega⟩⟩
     simp only [newObj]
     rw [Tr.aQ]
     simp
   obtain ⟨x,s1,e1,f1,l1⟩:=eY
   simp (disch:=omega) only [jN,st,si,e1,hv.len]
   refine aP (fE s 5 1 _ _) (fun k vs t=> ∃(i:Nat) (x:V),vs= [.int .i64 i,.int .i64 (xs.length:Int),v,x]∧Loc s t∧Jw s t n x (ls.take i).flatten∧i+k=xs.length) ?_ _ xs.length _ _ ⟨0,x,rfl,l1,f1,by omega⟩ (by omega)
   rintro ih k _ t ⟨i,x,rfl,hl,hf,hk⟩ eZ
   by_cases hi:i<xs.length
   ·have K0:=uq ls (i+1)
    have uE:=zN ls i (by omega)
    have hfl:=congrArg List.length uE
    rw [List.length_append] at hfl
    obtain ⟨y,t1,e2,f2,l2⟩:=hf.add hl (hxi i hi) (by omega)
    rw [←uE] at f2
    simp (disch:=omega) only [jN,st,si,hv.ix,Bm _ _ hi,e2,br]
    exact eZ (k - 1) _ _ (by omega) ⟨i+1,y,rfl,l2,f2,by omega⟩
   ·have DX:ls.take i=ls:=List.take_of_length_le (by omega)
    rw [DX] at hf
    simp (disch:=omega) only [jN,st,si]
    generalize ls.flatten=F at hf hT ⊢
    cases hf with
    |nil h=>subst h;exact eP hs hl Ow.nil rfl
    |aF b d hd h=>
     rw [hT,Nat.sub_self,List.replicate_zero,List.append_nil] at h
     rw [hT]
     exact eP hs hl (.aF b n _ true h (by simpa using hT)) (aS _ _)) (by omega)
theorem I4 (k:IntKind) (a b:Int):EB true [.int k a,.int k b]=some (.int k (if b>a then b else a)):=rfl
theorem oV (neg:Bool) {v:V} {l:List Int} (hv:Is .i64 v l) (hd:gu l) (hlen:l.length≤1000000000):eL cx 116 [.bool neg,v] (CV (fm neg (vb l))):=fun s hs=>
 (NC (aE (by decide))).fD (l.length+1) (by
  show bW s _ (Gi cx _ (.bool neg) v s)
  unfold Gi
  obtain ⟨s1,e1,b1,l1,k1,n1⟩:=ca [.bool false,.ah] 43 (Loc.refl hs)
  simp (disch:=omega) only [jU,st,si,e1,hv.len]
  refine aP (bW s _) (fun k vs t=>vs= [.bool neg,v,.int .i64 k,.ptr s.n 0]∧s1=t∧k≤l.length∧vb (l.take k)=vb l) ?_ _ l.length _ _ ⟨rfl,rfl,Nat.le_refl _,by rw [List.take_length]⟩ (by omega)
  rintro ih k _ _ ⟨rfl,rfl,hk,Lo⟩ eZ
  by_cases h0:k=0
  ·subst h0
   have hz:vb l=0:=by rw [←Lo];rfl
   obtain ⟨s2,e2,b2,l2,k2,n2⟩:=b1.put (z:=2) (l:= [.bool false,.ah]) l1 rfl rfl rfl
   simp (disch:=omega) only [jU,st,si,eB,e2,b2.r2]
   refine ⟨_,⟨.ah,?_,?_⟩,aO rfl (by omega) l2.fx⟩
   ·rw [hz];unfold fm;cases neg<;>rfl
   ·rw [hz]
    have:(fm neg 0).natAbs=0:=by unfold fm;cases neg<;>rfl
    rw [this,cG];exact Is.nil _
  ·by_cases hz:l.getD (k - 1) 0=0
   ·simp (disch:=omega) only [jU,st,si,br,I4,show ¬(0:Int)>(k:Int) - 1 by omega, ↓reduceIte,hv.ix,dW,show ((k:Int) - 1).toNat=k - 1 by omega,hz]
    refine eZ (k - 1) _ _ (by omega) ⟨by rw [show ((k - 1:Nat):Int)=(k:Int) - 1 by omega],rfl,by omega,tZ (by omega) hz Lo⟩
   ·obtain ⟨h1,h2⟩:=xH hd (by omega) hk hz Lo
    obtain ⟨w,hw,hi⟩:=hv.SG (q':= .i64) (hi:=k) (by omega) (by omega)
    rw [Int.toNat_natCast] at hi
    obtain ⟨s2,e2,b2,l2,k2,n2⟩:=b1.put (z:=2) (l:= [.bool neg,w]) l1 rfl rfl (by show (aR (.bool neg) && (aR w && true))=true;rw [Fs.aR hi];rfl)
    simp (disch:=omega) only [jU,st,si,br,I4,show ¬(0:Int)>(k:Int) - 1 by omega, ↓reduceIte,hv.ix,dW,show ((k:Int) - 1).toNat=k - 1 by omega]
    have hf:aI [.bool false,.ah] [(0,1,.bool neg),(1,1,w)]=some (.agg [.bool neg,w]):=wj rfl (Fs.aR hi)
    simp (disch:=omega) only [jU,st,si,br,hw,hf,e2,b2.r2]
    refine ⟨_,⟨w,?_,?_⟩,aO ?_ (by omega) l2.fx⟩
    ·rw [vc neg h2]
    ·rw [ik neg (by omega),h1];exact hi
    ·show (atom (.bool neg) && (atom w && true))=true
     rw [hi.atom];rfl) (by omega)
theorem CS {v:V} {l:List Int} (hv:Is .i64 v l) (hlen:l.length≤1000000000) {i:Int} (hi:0≤i):jK cx 163 [v,.int .i64 i] (.int .i64 (l.getD i.toNat 0)):=fun s hs=>
 (NS (aE (by decide))).run 0 (by
  show Gz cx 0 v (.int .i64 i) s=_
  unfold Gz
  by_cases h:i<l.length
  ·simp (disch:=omega) only [jE,st,si,hv.len,hv.ix,dW]
   rw [aO rfl (by omega) (by omega)]
  ·simp (disch:=omega) only [jE,st,si,hv.len]
   rw [aO rfl (by omega) (by omega),jg _ _ (by omega)]) (by omega)
theorem CQ {v w:V} {x y:Nat} (hv:Is .i64 v (nd x)) (hw:Is .i64 w (nd y)) (hl:(nd x).length≤1000000000):jK cx 118 [v,w] (.int .i64 (jb x y)):=fun s hs=>
 (NF (aE (by decide))).run ((nd x).length+1) (by
  show Gk cx _ v w s=_
  unfold Gk
  have h1:=cn x
  have h2:=cn y
  have hx:=cJ x
  have hy:=cJ y
  by_cases ha:(nd x).length<(nd y).length
  ·have:=rM ha
   simp (disch:=omega) only [jE,st,si,hv.len,hw.len]
   rw [aO rfl (by omega) (by omega)]
   unfold jb
   rw [if_pos (by omega)]
  by_cases hb:(nd y).length<(nd x).length
  ·have:=rM hb
   simp (disch:=omega) only [jE,st,si,hv.len,hw.len]
   rw [aO rfl (by omega) (by omega)]
   unfold jb
   rw [if_neg (by omega),if_pos (by omega)]
  simp (disch:=omega) only [jE,st,si,hv.len,hw.len,br]
  generalize nd x=a at*
  generalize nd y=b at*
  refine aP (fun r=>r=_) (fun k vs t=>vs= [.int .i64 ((k:Int) - 1),v,w]∧s=t∧k≤a.length∧a.drop k=b.drop k) ?_ _ a.length _ _ ⟨rfl,rfl,Nat.le_refl _,by rw [List.drop_eq_nil_of_le (Nat.le_refl _),List.drop_eq_nil_of_le (by omega)]⟩ (by omega)
  rintro ih k _ _ ⟨rfl,rfl,hk,he⟩ eZ
  by_cases h0:k=0
  ·subst h0
   simp (disch:=omega) only [jE,st,si]
   rw [aO rfl (by omega) (by omega)]
   rw [List.drop_zero,List.drop_zero] at he
   rw [he,h2] at h1
   unfold jb
   rw [if_neg (by omega),if_neg (by omega)]
  ·obtain ⟨k,rfl⟩: ∃j,k=j+1:=⟨k - 1,by omega⟩
   have e1:((k+1:Nat):Int) - 1=k:=by omega
   rw [e1]
   by_cases hlt:a.getD k 0<b.getD k 0
   ·have:=uj (by omega) hx hy (by omega) he hlt
    simp (disch:=omega) only [jE,st,si,hv.ix,hw.ix,dW]
    rw [aO rfl (by omega) (by omega)]
    unfold jb
    rw [if_pos (by omega)]
   by_cases hgt:b.getD k 0<a.getD k 0
   ·have:=uj (by omega) hy hx (by omega) he.symm hgt
    simp (disch:=omega) only [jE,st,si,hv.ix,hw.ix,dW]
    rw [aO rfl (by omega) (by omega)]
    unfold jb
    rw [if_neg (by omega),if_pos (by omega)]
   simp (disch:=omega) only [jE,st,si,hv.ix,hw.ix,dW,br]
   refine eZ k _ _ (by omega) ⟨rfl,rfl,by omega,?_⟩
   rw [fR a 0 (by omega),fR b 0 (by omega),he,show a.getD k 0=b.getD k 0 by omega]) (by omega)
theorem V5 {v w:V} {a b:List Int} (hv:Is .i64 v a) (hw:Is .i64 w b) (ha:gu a) (hb:gu b) (T8:a.length≤1000000000) (Br:b.length≤1000000000):
  AR cx 117 [v,w] 3 .i64 (fun l=>gu l∧vb l=vb a+vb b∧l.length≤a.length+b.length+1):=fun s hs=>
 (ND (aE (by decide))).L0 (a.length+b.length+2) (by
  show qc s 3 .i64 _ (Gj cx _ v w s)
  unfold Gj
  simp (disch:=omega) only [jP,st,si]
  refine aP (qc s 3 .i64 _) (fun k vs t=> ∃(x:V) (o:List Int) (c:Int),vs= [.int .i64 c,.int .i64 (o.length:Int),v,w,x]∧Loc s t∧Ow s t 3 1 x o.length (dk o)∧gu o∧0≤c∧c≤1∧vb o+bp o.length*c=vb (a.take o.length)+vb (b.take o.length)∧
   o.length+k=a.length+b.length+1∧(o.length=a.length+b.length+1→c=0)) ?_ _ (a.length+b.length+1) _ _
   ⟨.ah, [],0,rfl,Loc.refl hs,.nil,oa,by omega,by omega,by simp [vb],by simp,by omega⟩ (by omega)
  rintro ih k _ t ⟨x,o,c,rfl,hl,ho,hd,Hq,ll,he,hk,abS⟩ eZ
  have XN:=dF ha o.length
  have KR:=dF hb o.length
  rcases (show (o.length<a.length)∨(¬o.length<a.length∧o.length<b.length)∨(¬o.length<a.length∧ ¬o.length<b.length∧0<c)∨(¬o.length<a.length∧ ¬o.length<b.length∧ ¬0<c) by omega) with h|⟨h,h'⟩|⟨h,h',h''⟩|⟨h,h',h''⟩
  rotate_right
  ·simp (disch:=omega) only [jP,st,si,hv.len,hw.len]
   refine Dt hs hl ho ⟨hd,?_,by omega⟩
   rw [List.take_of_length_le (by omega),List.take_of_length_le (by omega),show c=0 by omega] at he
   omega
  all_goals
   have e1:=bO (dr:=false) (st:=false) (CS hv T8 (i:=o.length) (by omega)) (by simp only [List.all_cons,List.all_nil,Bool.and_true,hv.az];rfl) (s:=t) hl.wm
   have e2:=bO (dr:=false) (st:=false) (CS hw Br (i:=o.length) (by omega)) (by simp only [List.all_cons,List.all_nil,Bool.and_true,hw.az];rfl) (s:=t) hl.wm
   rw [Int.toNat_natCast] at e1 e2
   simp (disch:=omega) only [jP,st,si,hv.len,hw.len,e1,e2,br]
   obtain ⟨y,t1,e3,o3,l3,k3,b3⟩:=mR (z:= .int .i64 0) (d:= .int .i64 ((a.getD o.length 0+b.getD o.length 0+c) % 1000000000)) (te:=iV) hl ho rfl rfl (by decide) (by rw [show iV.bytes=8 from rfl];omega)
   rw [e3]
   refine eZ (k - 1) _ _ (by omega) ⟨y,o++ [(a.getD o.length 0+b.getD o.length 0+c) % 1000000000],(a.getD o.length 0+b.getD o.length 0+c) / 1000000000,by rw [List.length_append];rfl,l3,by simpa using o3,qA hd (oc (by omega)),by omega,by omega,?_,by rw [List.length_append];simp;omega,fun hh=> ?_⟩
   ·rw [AL,List.length_append,List.length_singleton,qW,nr,nr]
    have h3:=carry (a.getD o.length 0+b.getD o.length 0+c) (bp o.length)
    rw [Int.mul_add,Int.mul_add] at h3
    omega
   ·rw [List.length_append,List.length_singleton] at hh
    by_cases hz:a.length+b.length=0
    ·have h1:a.getD o.length 0=0:=jg _ _ (by omega)
     have h2:b.getD o.length 0=0:=jg _ _ (by omega)
     omega
    ·have h1:a.getD o.length 0=0:=jg _ _ (by omega)
     have h2:b.getD o.length 0=0:=jg _ _ (by omega)
     omega) (by omega)
theorem JM {v w:V} {a b:List Int} (hv:Is .i64 v a) (hw:Is .i64 w b) (ha:gu a) (hb:gu b) (T8:a.length≤1000000000) (Br:b.length≤1000000000) (hle:vb b≤vb a):
  AR cx 119 [v,w] 3 .i64 (fun l=>gu l∧vb l=vb a - vb b∧l.length=a.length):=fun s hs=>
 (NG (aE (by decide))).L0 (a.length+1) (by
  show qc s 3 .i64 _ (Gm cx _ v w s)
  unfold Gm
  simp (disch:=omega) only [jP,st,si]
  refine aP (qc s 3 .i64 _) (fun k vs t=> ∃(x:V) (o:List Int) (c:Int),vs= [.int .i64 c,.int .i64 (o.length:Int),v,w,x]∧Loc s t∧Ow s t 3 1 x o.length (dk o)∧gu o∧0≤c∧c≤1∧vb o - bp o.length*c=vb (a.take o.length) - vb (b.take o.length)∧o.length+k=a.length) ?_ _ a.length _ _
   ⟨.ah, [],0,rfl,Loc.refl hs,.nil,oa,by omega,by omega,by simp [vb],by simp⟩ (by omega)
  rintro ih k _ t ⟨x,o,c,rfl,hl,ho,hd,Hq,ll,he,hk⟩ eZ
  have XN:=dF ha o.length
  have KR:=dF hb o.length
  by_cases h:o.length<a.length
  ·have e2:=bO (dr:=true) (st:=false) (CS hw Br (i:=o.length) (by omega)) (by simp only [List.all_cons,List.all_nil,Bool.and_true,hw.az];rfl) (s:=t) hl.wm
   rw [Int.toNat_natCast] at e2
   simp (disch:=omega) only [jP,st,si,hv.len,hv.ix,dW,Int.toNat_natCast,e2,br]
   have wQ: ∀(d c':Int),0≤d→d<1000000000→0≤c'→c'≤1→d=a.getD o.length 0 - b.getD o.length 0 - c+1000000000*c'→
     vb (o++ [d]) - bp (o++ [d]).length*c'=vb (a.take (o++ [d]).length) - vb (b.take (o++ [d]).length):=by
    intro d c' _ _ _ _ iU
    rw [AL,List.length_append,List.length_singleton,qW,nr,nr,iU]
    grind
   by_cases hneg:a.getD o.length 0 - b.getD o.length 0 - c<0
   ·simp (disch:=omega) only [jP,st,si,br]
    obtain ⟨y,t1,e3,o3,l3,k3,b3⟩:=mR (z:= .int .i64 0) (d:= .int .i64 (a.getD o.length 0 - b.getD o.length 0 - c+1000000000)) (te:=iV) hl ho rfl rfl (by decide) (by rw [show iV.bytes=8 from rfl];omega)
    rw [e3]
    exact eZ (k - 1) _ _ (by omega) ⟨y,o++ [a.getD o.length 0 - b.getD o.length 0 - c+1000000000],1,by rw [List.length_append];rfl,l3,by simpa using o3,qA hd (oc (by omega)),by omega,by omega,wQ _ 1 (by omega) (by omega) (by omega) (by omega) (by omega),by rw [List.length_append];simp;omega⟩
   ·simp (disch:=omega) only [jP,st,si,br]
    obtain ⟨y,t1,e3,o3,l3,k3,b3⟩:=mR (z:= .int .i64 0) (d:= .int .i64 (a.getD o.length 0 - b.getD o.length 0 - c)) (te:=iV) hl ho rfl rfl (by decide) (by rw [show iV.bytes=8 from rfl];omega)
    rw [e3]
    exact eZ (k - 1) _ _ (by omega) ⟨y,o++ [a.getD o.length 0 - b.getD o.length 0 - c],0,by rw [List.length_append];rfl,l3,by simpa using o3,qA hd (oc (by omega)),by omega,by omega,wQ _ 0 (by omega) (by omega) (by omega) (by omega) (by omega),by rw [List.length_append];simp;omega⟩
  ·simp (disch:=omega) only [jP,st,si,hv.len]
   refine Dt hs hl ho ⟨hd,?_,by omega⟩
   have hol:o.length=a.length:=by omega
   rw [hol,List.take_length] at he
   have h1:=iS hd
   have h2:=hJ hd
   have h3:=iS ha
   have h5:=hJ (gQ a.length hb)
   rw [hol] at h1
   have h8:vb b=vb (b.take a.length)+bp a.length*vb (b.drop a.length):=by
    by_cases z9:a.length≤b.length
    ·exact iO b _ z9
    ·rw [List.take_of_length_le (by omega),List.drop_eq_nil_of_le (by omega)];simp [vb]
   have h6:=hJ (lP a.length hb)
   have h7:=fb a.length
   have h9:vb (b.drop a.length)=0:=by
    rcases (show vb (b.drop a.length)=0∨1≤vb (b.drop a.length) by omega) with h|h
    ·exact h
    ·have:bp a.length*1≤bp a.length*vb (b.drop a.length):=Int.mul_le_mul_of_nonneg_left h (by omega)
     omega
   rw [h9] at h8
   rcases (show c=0∨c=1 by omega) with rfl|rfl
   ·omega
   ·omega) (by omega)
theorem cO {s₀ s:S} {cs l:List V} {t z:Nat} (hl:Loc s₀ s) (hz:l.length=z) (hc:cs.length=z) (hx:l.all aR=true):
  ∃s',(∀K:V→S→bB,(af (aq s (aT cs t (aw s))) fun p s₁=>af (aq s₁ (aB z p (.agg l) (aw s₁))) fun _ s₂=>K p s₂)=K (.ptr s.n 0) s')∧dX s₀ s' s.n l t false∧Loc s₀ s'∧Kp s s' []∧s'.n=s.n+1:=by
 obtain ⟨s1,e1,b1,l1,k1,n1⟩:=ca cs t hl
 obtain ⟨s2,e2,b2,l2,k2,n2⟩:=b1.put l1 hz hc hx
 refine ⟨s2,fun K=>by rw [e1,bS,e2,bS],b2,l2,⟨by have:=k1.1;have:=k2.1;omega,fun c hc _=> ?_⟩,by omega⟩
 rw [k2.2 c (by omega) (by simp;omega),k1.2 c hc (by simp)]
theorem Ze (a b:Bool):an .neq (Tr.get types 4) (.bool a) (.bool b)=some (.bool (decide (a≠b))):=by cases a<;>cases b<;>rfl
theorem nS {d:V} {x:Int} (hd:Is .i64 d (nd x.natAbs)):([.bool (decide (x<0)),d]:List V).all atom=true∧([.bool (decide (x<0)),d]:List V).all aR=true:=by
 constructor
 ·show (atom (.bool (decide (x<0))) && (atom d && true))=true
  rw [Is.atom hd];rfl
 ·show (aR (.bool (decide (x<0))) && (aR d && true))=true
  rw [Fs.aR hd];rfl
theorem vk (x:Int):vb (nd x.natAbs)=(x.natAbs:Int):=cn _
theorem mZ {x:Nat} {n:Nat} (h:x<1000000000 ^ n):(nd x).length≤n:=by
 induction n generalizing x with
 |zero=>
  have:x=0:=by simpa using h
  subst this;simp [cG]
 |succ n ih=>
  by_cases h0:x=0
  ·subst h0;simp [cG]
  ·rw [jk h0,List.length_cons]
   have:=ih (x:=x / 1000000000) (by rw [Nat.pow_succ] at h;omega)
   omega
theorem JQ (n:Int) (hr:fk n):eL cx 67 [.int .i64 n] (CV n):=fun s hs=>
 (E67 (aE (by decide))).fD (n.natAbs+2) (by
  show bW s _ (Tn cx _ (.int .i64 n) s)
  unfold Tn
  have h1:=hr.1
  have h2:=hr.2
  obtain ⟨s1,e1,b1,l1,k1,n1⟩:=ca [.bool false,.ah] 43 (Loc.refl hs)
  simp (disch:=omega) only [jU,st,si,e1]
  refine aP (bW s _) (fun k vs t=> ∃(x:V) (o:List Int),vs= [.int .i64 (fm (decide (n<0)) k),.bool (decide (n<0)),x,.ptr s.n 0]∧Loc s t∧Ow s t 3 1 x o.length (dk o)∧dX s t s.n [.bool false,.ah] 43 false∧(∀c,c∈aA x→c≠s.n)∧gu o∧o.length≤3∧o++nd k=nd n.natAbs∧k≤n.natAbs) ?_ _ n.natAbs _ _
   ⟨.ah, [],?_,l1,.nil,b1,(fun c hc=>by cases hc),oa,by simp,rfl,Nat.le_refl _⟩ (by omega)
  ·rintro ih k _ t ⟨x,o,rfl,hl,ho,hb,hx,hd,hol,he,hk⟩ eZ
   have h3:=mZ (x:=n.natAbs) (n:=3) (by omega)
   by_cases h0:k=0
   ·subst h0
    rw [cG,List.append_nil] at he
    have hz:fm (decide (n<0)) 0=0:=by unfold fm;split<;>rfl
    obtain ⟨x',sx,ha,hx'⟩:=B9 [.bool (decide (n<0))] [] ho (aS _ _) rfl rfl
    obtain ⟨v,hv,s2,e2,l2,k2,n2,r2⟩:=lM (dr:=false) (st:=true) hl ha (fun b hb=>(ho.lo hb).1) (fun _ h=>by cases h) (oV (decide (n<0)) hx' hd (by omega))
    simp only [List.cons_append,List.nil_append] at e2
    simp (disch:=omega) only [jU,st,si,show ((0:Nat):Int)=0 from rfl,hz,ne_eq,not_true,e2]
    rw [he,vk] at hv
    have HG:fm (decide (n<0)) (n.natAbs:Int)=n:=by unfold fm;by_cases h:n<0<;>simp [h]<;>omega
    rw [HG] at hv
    obtain ⟨d,rfl,Aa⟩:=hv
    have qj:=hb.kp k2 (fun hc=>hx _ hc rfl)
    exact ⟨_,⟨d,rfl,Aa⟩,gz qj l2 hs rfl rfl (nS Aa).1⟩
   ·have hne:fm (decide (n<0)) (k:Int)≠0:=by unfold fm;split<;>omega
    rw [jk h0] at he
    have hlen:=congrArg List.length he
    rw [List.length_append,List.length_cons] at hlen
    obtain ⟨y,t1,e3,o3,l3,k3,b3⟩:=mR (z:= .int .i64 0) (d:= .int .i64 ((k:Int) % 1000000000)) (te:=iV) hl ho rfl rfl (by decide) (by rw [show iV.bytes=8 from rfl];omega)
    have KJ:ih [.int .i64 (fm (decide (n<0)) ((k / 1000000000:Nat):Int)),.bool (decide (n<0)),y,.ptr s.n 0] t1=ih [.int .i64 (fm (decide (n<0)) ((k / 1000000000:Nat):Int)),.bool (decide (n<0)),y,.ptr s.n 0] t1:=rfl
    have hlo:=hb.hi
    have kV:bW s (CV n) (ih [.int .i64 (fm (decide (n<0)) ((k / 1000000000:Nat):Int)),.bool (decide (n<0)),y,.ptr s.n 0] t1):=
     eZ (k / 1000000000) _ _ (by omega) ⟨y,o++ [((k % 1000000000:Nat):Int)],rfl,l3,by simpa using o3,hb.kp k3 (fun hc=>hx _ hc rfl),fun c hc=>(b3 c hc).elim (hx c) (fun h=>by omega),qA hd (oc (by omega)),by rw [List.length_append];simp;omega,by simpa using he,by omega⟩
    by_cases hn:n<0
    ·simp only [hn,decide_true,fm, ↓reduceIte] at hne kV ⊢
     have eq1:Int.tmod (-(k:Int)) 1000000000= -((k:Int) % 1000000000):=by rw [Int.neg_tmod,Int.tmod_eq_emod_of_nonneg (by omega)]
     have eq2:Int.tdiv (-(k:Int)) 1000000000= -((k:Int) / 1000000000):=by rw [Int.neg_tdiv,Int.tdiv_eq_ediv_of_nonneg (by omega)]
     rw [show ((k / 1000000000:Nat):Int)=(k:Int) / 1000000000 by omega] at kV
     by_cases hz:(k:Int) % 1000000000=0
     ·rw [hz] at e3
      simp (disch:=omega) only [jU,st,si,LW,LR,eq1,eq2,hz,Int.neg_zero,br,e3]
      exact kV
     ·simp (disch:=omega) only [jU,st,si,LW,LR,eq1,eq2,AJ,br,Int.sub_neg,Int.zero_add,e3]
      exact kV
    ·simp only [hn,decide_false,fm, ↓reduceIte,Bool.false_eq_true] at hne kV ⊢
     rw [show ((k / 1000000000:Nat):Int)=(k:Int) / 1000000000 by omega] at kV
     simp (disch:=omega) only [jU,st,si,br,e3]
     exact kV
  ·have:fm (decide (n<0)) (n.natAbs:Int)=n:=by unfold fm;by_cases h:n<0<;>simp [h]<;>omega
   rw [this]) (by omega)
theorem H0 {s₀ s:S} {b t z:Nat} {bL:Bool} {l:List V} (h:dX s₀ s b l t bL) (hl:Loc s₀ s) (h0:s₀.wm=s₀.n) (hz:l.length=z) (ha:l.all atom=true):aC s₀ s [aD z s (.ptr b 0)]=some (.agg l,s₀):=by
 rw [eV h.rd (show 0+z≤l.length by omega),List.drop_zero,List.take_of_length_le (by omega)]
 exact aO ha (by omega) hl.fx
theorem sb:(an .eql (Tr.get types 4) (.bool true) (.bool true)=some (.bool true))∧(an .eql (Tr.get types 4) (.bool true) (.bool false)=some (.bool false))∧(an .eql (Tr.get types 4) (.bool false) (.bool true)=some (.bool false))∧(an .eql (Tr.get types 4) (.bool false) (.bool false)=some (.bool true))∧
  (an .neq (Tr.get types 4) (.bool true) (.bool true)=some (.bool false))∧(an .neq (Tr.get types 4) (.bool true) (.bool false)=some (.bool true))∧(an .neq (Tr.get types 4) (.bool false) (.bool true)=some (.bool true))∧(an .neq (Tr.get types 4) (.bool false) (.bool false)=some (.bool false)):=
 ⟨rfl,rfl,rfl,rfl,rfl,rfl,rfl,rfl⟩
theorem OW {x:Int} {a:V} (ha:CV x a) (hlen:(nd x.natAbs).length≤1000000000):eL cx 114 [a] (CV (-x)):=fun s hs=>
 (NA (aE (by decide))).fD 0 (by
  obtain ⟨d,rfl,hd⟩:=ha
  show bW s _ (Gg cx 0 (.agg [.bool (decide (x<0)),d]) s)
  unfold Gg
  obtain ⟨s1,e1,b1,l1,k1,n1⟩:=ca [.bool (decide (x<0)),d] 43 (Loc.refl hs)
  obtain ⟨s2,e2,b2,l2,k2,n2⟩:=ca [.bool false,.ah] 43 l1
  have eX:=b1.kp k2 (by simp)
  obtain ⟨v,hv,e3⟩:=aU (dr:=false) (st:=true) (oV (!decide (x<0)) hd (cJ _) hlen) (by show (true && (az d && true))=true;rw [Is.az hd];rfl) l2.wm
  simp (disch:=omega) only [jU,st,si,dt,e1,e2,cS,eX.r2,ea,e3]
  rw [vk] at hv
  have HG:fm (!decide (x<0)) (x.natAbs:Int)= -x:=by unfold fm;by_cases h:x<0<;>simp [h]<;>omega
  rw [HG] at hv
  obtain ⟨d',rfl,gj⟩:=hv
  exact ⟨_,⟨d',rfl,gj⟩,gz b2 l2 hs rfl rfl (nS gj).1⟩) (by omega)
theorem G4 {v:V} {l:List Int} (hv:Is .i64 v l) (hd:gu l) (hlen:l.length≤2):jK cx 161 [v] (.int .i64 (vb l)):=fun s hs=>
 (NQ (aE (by decide))).run 0 (by
  show Gx cx 0 v s=_
  unfold Gx
  have e1:=bO (dr:=false) (st:=false) (CS hv (by omega) (i:=1) (by omega)) (by simp only [List.all_cons,List.all_nil,Bool.and_true,hv.az];rfl) (s:=s) (by omega)
  have e2:=bO (dr:=false) (st:=false) (CS hv (by omega) (i:=0) (by omega)) (by simp only [List.all_cons,List.all_nil,Bool.and_true,hv.az];rfl) (s:=s) (by omega)
  have h1:=dF hd 1
  have h2:=dF hd 0
  have h3:vb l=l.getD 1 0*1000000000+l.getD 0 0:=by
   match l,hlen with
   | [],_=>rfl
   | [a],_=>simp [vb]
   | [a,b],_=>simp [vb];omega
   |a::b::c::l,h=>simp at h
  rw [show (1:Int).toNat=1 from rfl] at e1
  rw [show (0:Int).toNat=0 from rfl] at e2
  simp (disch:=omega) only [jE,st,si,e1,e2,br]
  rw [aO rfl (by omega) (by omega),h3]) (by omega)
theorem OY {x y:Int} {a b:V} (ha:CV x a) (hb:CV y b) (hl:(nd x.natAbs).length≤1000000000) (fg:(nd y.natAbs).length≤1000000000):jK cx 128 [a,b] (.int .i64 (jb x y)):=fun s hs=>
 (NI (aE (by decide))).run 0 (by
  obtain ⟨d,rfl,hd⟩:=ha
  obtain ⟨e,rfl,he⟩:=hb
  show Gp cx 0 (.agg [.bool (decide (x<0)),d]) (.agg [.bool (decide (y<0)),e]) s=_
  unfold Gp
  obtain ⟨s1,e1,b1,l1,k1,n1⟩:=ca [.bool (decide (x<0)),d] 43 (Loc.refl hs)
  obtain ⟨s2,e2,b2,l2,k2,n2⟩:=ca [.bool (decide (y<0)),e] 43 l1
  have eX:=b1.kp k2 (by simp)
  have e3:=bO (dr:=false) (st:=false) (CQ hd he hl) (by show (az d && (az e && true))=true;rw [Is.az hd,Is.az he];rfl) l2.wm
  have e4:=bO (dr:=false) (st:=false) (CQ he hd fg) (by show (az e && (az d && true))=true;rw [Is.az hd,Is.az he];rfl) l2.wm
  simp (disch:=omega) only [jE,st,si,dt,e1,e2,cS,eX.r2,b2.r2]
  by_cases hx:x<0<;>by_cases hy:y<0
  ·simp (disch:=omega) only [jE,hx,hy,decide_true,sb,st,cS,eX.r2,b2.r2,e4]
   rw [aO rfl (by omega) l2.fx]
   congr 3
   unfold jb
   (repeat' split)<;>omega
  ·simp (disch:=omega) only [jE,hx,hy,decide_true,decide_false,sb,st,cS,eX.r2,b2.r2]
   rw [aO rfl (by omega) l2.fx]
   unfold jb
   rw [if_pos (by omega)]
  ·simp (disch:=omega) only [jE,hx,hy,decide_true,decide_false,sb,st,cS,eX.r2,b2.r2]
   rw [aO rfl (by omega) l2.fx]
   unfold jb
   rw [if_neg (by omega),if_pos (by omega)]
  ·simp (disch:=omega) only [jE,hx,hy,decide_false,sb,st,cS,eX.r2,b2.r2,e3]
   rw [aO rfl (by omega) l2.fx]
   congr 3
   unfold jb
   (repeat' split)<;>omega) (by omega)
theorem CV.zero:CV 0 (.agg [.bool false,.ah]):=⟨.ah,rfl,by rw [show (0:Int).natAbs=0 from rfl,cG];exact Is.nil _⟩
theorem OX {x:Int} {a:V} (ha:CV x a) (hl:(nd x.natAbs).length≤1000000000):jK cx 120 [a] (.int .i64 (jb x 0)):=fun s hs=>
 (NH (aE (by decide))).run 0 (by
  have lj:=ha
  obtain ⟨d,rfl,hd⟩:=ha
  show Gn cx 0 (.agg [.bool (decide (x<0)),d]) s=_
  unfold Gn
  obtain ⟨s1,e1,b1,l1,k1,n1⟩:=ca [.bool (decide (x<0)),d] 43 (Loc.refl hs)
  have e3:=bO (dr:=false) (st:=false) (OY lj CV.zero hl (by simp [cG])) (by show (_ && (true && true))=true;rw [lj.az];rfl) l1.wm
  simp (disch:=omega) only [jE,st,dt,e1,b1.r2,eB,e3]
  rw [aO rfl (by omega) l1.fx]) (by omega)
theorem c70 {x y:Int} {a b:V} (ha:CV x a) (hb:CV y b) (hl:(nd x.natAbs).length≤100000000) (fg:(nd y.natAbs).length≤100000000):eL cx 70 [a,b] (CV (x+y)):=fun s hs=>
 (E70 (aE (by decide))).fD 0 (by
  obtain ⟨d,rfl,hd⟩:=ha
  obtain ⟨e,rfl,he⟩:=hb
  show bW s _ (Tq cx 0 (.agg [.bool (decide (x<0)),d]) (.agg [.bool (decide (y<0)),e]) s)
  unfold Tq
  obtain ⟨s1,e1,b1,l1,k1,n1⟩:=ca [.bool (decide (x<0)),d] 43 (Loc.refl hs)
  obtain ⟨s2,e2,b2,l2,k2,n2⟩:=ca [.bool (decide (y<0)),e] 43 l1
  obtain ⟨s3,e3,b3,l3,k3,n3⟩:=ca [.bool false,.ah] 43 l2
  have eX:=(b1.kp k2 (by simp)).kp k3 (by simp)
  have kr:=b2.kp k3 (by simp)
  have h1:=cn x.natAbs
  have h2:=cn y.natAbs
  have e4:=bO (dr:=false) (st:=false) (CQ hd he (by omega)) (by show (az d && (az e && true))=true;rw [Is.az hd,Is.az he];rfl) l3.wm
  simp (disch:=omega) only [jU,st,si,dt,e1,e2,e3,cS,eX.r2,kr.r2]
  have fin: ∀(neg:Bool) (l:List Int) (v:V) (t:S),Loc s t→Ow s t 3 1 v l.length (dk l)→Kp s3 t []→(∀b,b∈aA v→s3.n≤b)→gu l→l.length≤1000000000→fm neg (vb l)=x+y→
    ∃w t2 t3,aH cx (.fn 116 [] []) [.bool neg,v] t=some (w,t2,lh none t.n t.n (aA v))∧dD (some (ag.aF (.ptr s2.n 0))) (some (ag.aF (.ptr s2.n 0))) t2 (aB 2 (.ptr s2.n 0) w (aw t2))=some (.bad,t3,⟨⟨some [s2.n],some [s2.n],t2.n,t2.n⟩, []⟩)∧
     (∃v,CV (x+y) v∧aC s t3 [aD 2 t3 (.ptr s2.n 0)]=some (v,s)):=by
   intro neg l v t hlt ho hk hv nD Ua HG
   obtain ⟨x',sx,uE,hx'⟩:=B9 [.bool neg] [] ho (aS _ _) rfl rfl
   obtain ⟨w,hw,t2,e5,l5,k5,n5,_⟩:=xZ hlt uE (fun b hb=>(ho.lo hb).1) (oV neg hx' nD Ua)
   rw [HG] at hw
   obtain ⟨d',rfl,gj⟩:=hw
   have hi:=b3.hi
   have b5:=(b3.kp hk (by simp)).kp k5 (fun hc=>by have:=hv _ hc;omega)
   obtain ⟨t3,e6,b6,l6,k6,n6⟩:=b5.mN (r:=some (ag.aF (.ptr s2.n 0))) (w:=some (ag.aF (.ptr s2.n 0))) (z:=2) l5 rfl rfl (nS gj).2
   exact ⟨_,t2,t3,e5,e6,_,⟨d',rfl,gj⟩,H0 b6 l6 hs rfl (nS gj).1⟩
  have sides: ∀v:V,(∀b,b∈aA v→s3.n≤b)→ ∀c,c∈ [s2.n]→c∉aA v:=fun v hv c hc FQ=>by
   have:=hv c FQ;simp only [List.mem_singleton] at hc;omega
  have aa:cm d=true∧cm e=true:=⟨Fs.cm hd,Fs.cm he⟩
  have plus: ∀neg:Bool,fm neg ((x.natAbs:Int)+y.natAbs)=x+y→ ∃v t hi l,aH cx (.fn 117 [] []) [d,e] s3=some (v,t,lh none s3.n hi [])∧Loc s t∧Ow s t 3 1 v l.length (dk l)∧Kp s3 t []∧(∀b,b∈aA v→s3.n≤b)∧gu l∧l.length≤1000000000∧fm neg (vb l)=x+y:=by
   intro neg HG
   obtain ⟨l,⟨p1,p2,p3⟩,v,t,hi,e5,o5,l5,k5,b5⟩:=qq l3 (by simp [aa]) (V5 hd he (cJ _) (cJ _) (by omega) (by omega))
   exact ⟨v,t,hi,l,e5,l5,o5,k5,b5,p1,by omega,by rw [p2,h1,h2];exact HG⟩
  have minus: ∀(neg:Bool) (m n:Nat) (f g:V),Is .i64 f (nd m)→Is .i64 g (nd n)→(nd m).length≤100000000→(nd n).length≤100000000→n≤m→fm neg ((m:Int) - n)=x+y→ ∃v t hi l,aH cx (.fn 119 [] []) [f,g] s3=some (v,t,lh none s3.n hi [])∧Loc s t∧Ow s t 3 1 v l.length (dk l)∧Kp s3 t []∧(∀b,b∈aA v→s3.n≤b)∧gu l∧l.length≤1000000000∧fm neg (vb l)=x+y:=by
   intro neg m n f g hf hg hm hn hle HG
   obtain ⟨l,⟨p1,p2,p3⟩,v,t,hi,e5,o5,l5,k5,b5⟩:=qq l3 (by simp [Fs.cm hf,Fs.cm hg]) (JM hf hg (cJ _) (cJ _) (by omega) (by omega) (by rw [cn,cn];omega))
   exact ⟨v,t,hi,l,e5,l5,o5,k5,b5,p1,by omega,by rw [p2,cn,cn];exact HG⟩
  have hlt:x.natAbs<y.natAbs→jb (x.natAbs:Int) (y.natAbs:Int)<0:=fun h=>by unfold jb;rw [if_pos (by omega)];omega
  have hge: ¬x.natAbs<y.natAbs→ ¬jb (x.natAbs:Int) (y.natAbs:Int)<0:=fun h=>by unfold jb;rw [if_neg (by omega)];split<;>omega
  generalize jb (x.natAbs:Int) (y.natAbs:Int)=sg at*
  by_cases hx:x<0<;>by_cases hy:y<0
  ·obtain ⟨v,t,hi,l,e5,l5,o5,k5,b5,p1,p2,p3⟩:=plus true (by unfold fm;simp;omega)
   obtain ⟨w,t2,t3,e6,e7,hend⟩:=fin true l v t l5 o5 k5 b5 p1 p2 p3
   simp (disch:=omega) only [hx,hy,decide_true] at eX kr ⊢
   simp (disch:=omega) only [jU,sb,st,sf,cS,eX.r2,kr.r2,e5,e6,e7]
   exact wU (vA (fl:= [_,_,_,_,_,_,_,_]) (b:=s2.n) 8 rfl (by decide) (by repeat' first|exact trivial|apply Qs.c0|apply Qs.cz; ·exact sides v b5)) hend
  ·simp (disch:=omega) only [hx,hy,decide_true,decide_false] at eX kr ⊢
   by_cases hc:x.natAbs<y.natAbs
   ·obtain ⟨v,t,hi,l,e5,l5,o5,k5,b5,p1,p2,p3⟩:=minus false _ _ _ _ he hd fg hl (by omega) (by unfold fm;simp;omega)
    obtain ⟨w,t2,t3,e6,e7,hend⟩:=fin false l v t l5 o5 k5 b5 p1 p2 p3
    have hc:=hlt hc
    simp (disch:=omega) only [jU,sb,st,si,sf,cS,eX.r2,kr.r2,e4,e5,e6,e7]
    exact wU (vA (fl:= [_,_,_,_,_,_,_,_]) (b:=s2.n) 8 rfl (by decide) (by repeat' first|exact trivial|apply Qs.c0|apply Qs.cz; ·exact sides v b5)) hend
   ·obtain ⟨v,t,hi,l,e5,l5,o5,k5,b5,p1,p2,p3⟩:=minus true _ _ _ _ hd he hl fg (by omega) (by unfold fm;simp;omega)
    obtain ⟨w,t2,t3,e6,e7,hend⟩:=fin true l v t l5 o5 k5 b5 p1 p2 p3
    have hc:=hge hc
    simp (disch:=omega) only [jU,sb,st,si,sf,cS,eX.r2,kr.r2,e4,e5,e6,e7]
    exact wU (vA (fl:= [_,_,_,_,_,_,_,_]) (b:=s2.n) 8 rfl (by decide) (by repeat' first|exact trivial|apply Qs.c0|apply Qs.cz; ·exact sides v b5)) hend
  ·simp (disch:=omega) only [hx,hy,decide_true,decide_false] at eX kr ⊢
   by_cases hc:x.natAbs<y.natAbs
   ·obtain ⟨v,t,hi,l,e5,l5,o5,k5,b5,p1,p2,p3⟩:=minus true _ _ _ _ he hd fg hl (by omega) (by unfold fm;simp;omega)
    obtain ⟨w,t2,t3,e6,e7,hend⟩:=fin true l v t l5 o5 k5 b5 p1 p2 p3
    have hc:=hlt hc
    simp (disch:=omega) only [jU,sb,st,si,sf,cS,eX.r2,kr.r2,e4,e5,e6,e7]
    exact wU (vA (fl:= [_,_,_,_,_,_,_,_]) (b:=s2.n) 8 rfl (by decide) (by repeat' first|exact trivial|apply Qs.c0|apply Qs.cz; ·exact sides v b5)) hend
   ·obtain ⟨v,t,hi,l,e5,l5,o5,k5,b5,p1,p2,p3⟩:=minus false _ _ _ _ hd he hl fg (by omega) (by unfold fm;simp;omega)
    obtain ⟨w,t2,t3,e6,e7,hend⟩:=fin false l v t l5 o5 k5 b5 p1 p2 p3
    have hc:=hge hc
    simp (disch:=omega) only [jU,sb,st,si,sf,cS,eX.r2,kr.r2,e4,e5,e6,e7]
    exact wU (vA (fl:= [_,_,_,_,_,_,_,_]) (b:=s2.n) 8 rfl (by decide) (by repeat' first|exact trivial|apply Qs.c0|apply Qs.cz; ·exact sides v b5)) hend
  ·obtain ⟨v,t,hi,l,e5,l5,o5,k5,b5,p1,p2,p3⟩:=plus false (by unfold fm;simp;omega)
   obtain ⟨w,t2,t3,e6,e7,hend⟩:=fin false l v t l5 o5 k5 b5 p1 p2 p3
   simp (disch:=omega) only [hx,hy,decide_false] at eX kr ⊢
   simp (disch:=omega) only [jU,sb,st,sf,cS,eX.r2,kr.r2,e5,e6,e7]
   exact wU (vA (fl:= [_,_,_,_,_,_,_,_]) (b:=s2.n) 8 rfl (by decide) (by repeat' first|exact trivial|apply Qs.c0|apply Qs.cz; ·exact sides v b5)) hend) (by omega)
theorem uQ {a b:Int} (ha:0≤a∧a<1000000000) (hb:0≤b∧b<1000000000):0≤a*b∧a*b≤999999998000000001:=by
 refine ⟨Int.mul_nonneg ha.1 hb.1,?_⟩
 have h1:a*b≤999999999*b:=Int.mul_le_mul_of_nonneg_right (by omega) hb.1
 omega
theorem H3 (x y:Int):fm (decide (decide (x<0)≠decide (y<0))) ((x.natAbs:Int)*y.natAbs)=x*y:=by
 unfold fm
 by_cases hx:x<0<;>by_cases hy:y<0<;>simp only [hx,hy,decide_true,decide_false,ne_eq,not_true,not_false_iff,Bool.false_eq_true,Bool.true_eq_false, ↓reduceIte]
 ·rw [show (x.natAbs:Int)= -x by omega,show (y.natAbs:Int)= -y by omega,Int.neg_mul_neg]
 ·rw [show (x.natAbs:Int)= -x by omega,show (y.natAbs:Int)=y by omega,Int.neg_mul,Int.neg_neg]
 ·rw [show (x.natAbs:Int)=x by omega,show (y.natAbs:Int)= -y by omega,Int.mul_neg,Int.neg_neg]
 ·rw [show (x.natAbs:Int)=x by omega,show (y.natAbs:Int)=y by omega]
theorem jT (l:List Int) (i j:Nat) (x:Int) (h:i≠j):(l.set i x).getD j 0=l.getD j 0:=by
 simp [List.getD_eq_getElem?_getD,List.getElem?_set,h]
theorem gG (o:List Int) (j:Nat) (x:Int):dk (o.set j x)=(dk o).set j (.int .i64 x):=List.map_set
theorem lE (n:Nat):dk (List.replicate n 0)=List.replicate n (.int .i64 0):=List.map_replicate
theorem Ip {x y:Int} {a b:V} (ha:CV x a) (hb:CV y b) (hl:(nd x.natAbs).length≤100000000) (fg:(nd y.natAbs).length≤100000000):eL cx 68 [a,b] (CV (x*y)):=fun s hs=>
 (E68 (aE (by decide))).fD ((nd x.natAbs).length+(nd y.natAbs).length+1) (by
  obtain ⟨d,rfl,hd⟩:=ha
  obtain ⟨e,rfl,he⟩:=hb
  show bW s _ (To cx _ (.agg [.bool (decide (x<0)),d]) (.agg [.bool (decide (y<0)),e]) s)
  unfold To
  generalize hF:(nd x.natAbs).length+(nd y.natAbs).length+1=F
  obtain ⟨s1,e1,b1,l1,k1,n1⟩:=ca [.bool (decide (x<0)),d] 43 (Loc.refl hs)
  obtain ⟨s2,e2,b2,l2,k2,n2⟩:=ca [.bool (decide (y<0)),e] 43 l1
  obtain ⟨s3,e3,b3,l3,k3,n3⟩:=ca [.bool false,.ah] 43 l2
  have eX:=(b1.kp k2 (by simp)).kp k3 (by simp)
  have kr:=b2.kp k3 (by simp)
  have hvx:=vk x
  have hvy:=vk y
  have oO:=cJ x.natAbs
  have mL:=cJ y.natAbs
  have hX:Is .i64 d (nd x.natAbs):=hd
  generalize hA:nd x.natAbs=A at hd hvx oO hl hF
  generalize hB:nd y.natAbs=B at he hvy mL fg hF
  obtain ⟨out,s4,e4,o4,l4,k4,bo⟩:=Re (T:=types) (t:=22) (ti:=BV) (te:=iV) (x:= .int .i64 0) (n:=(A.length:Int)+B.length) l3 rfl rfl rfl rfl rfl (by omega) (by rw [show iV.bytes=8 from rfl];omega) (by omega)
  simp (disch:=omega) only [jU,st,si,dt,e1,e2,e3,cS,eX.r2,kr.r2,hd.len,he.len,br,e4]
  have xX:=eX.kp k4 (by simp)
  have VO:=kr.kp k4 (by simp)
  have VQ:=b3.kp k4 (by simp)
  have hn3:=b3.hi
  have wK:=b2.hi
  have lY:=b1.hi
  have o4':Ow s s4 3 1 out (A.length+B.length) (dk (List.replicate (A.length+B.length) 0)):=by
   rw [show ((A.length:Int)+B.length).toNat=A.length+B.length by omega] at o4
   rwa [lE]
  refine aP (bW s _) (fun k vs t=> ∃(o:List Int) (i:Nat),vs= [.int .i64 i,.ptr s.n 0,.ptr s1.n 0,out,.ptr s2.n 0]∧Loc s t∧Ow s t 3 1 out (A.length+B.length) (dk o)∧
   dX s t s.n [.bool (decide (x<0)),d] 43 false∧dX s t s1.n [.bool (decide (y<0)),e] 43 false∧dX s t s2.n [.bool false,.ah] 43 false∧
   gu o∧o.length=A.length+B.length∧vb o=vb (A.take i)*vb B∧(∀j,i+B.length≤j→o.getD j 0=0)∧i+k=A.length) ?_ _ A.length _ _
   ⟨_,0,rfl,l4,o4',xX,VO,VQ,qB _,List.length_replicate,by rw [xK,List.take_zero];simp [vb],fun j _=>by simp [List.getD_eq_getElem?_getD,List.getElem?_replicate];split<;>rfl,by omega⟩ (by omega)
  rintro ih k _ t ⟨o,i,rfl,hlt,ho,q1,q2,q3,xS,hol,hv,hz,DX⟩ eZ
  by_cases hi:i<A.length
  ·simp (disch:=omega) only [jU,st,si,cS,q1.r2,hd.len]
   have MW:=dF oO i
   refine aP (bW s _) (fun m vs t=> ∃(o:List Int) (k:Nat) (c:Int),vs= [.int .i64 k,.int .i64 c,.int .i64 i,.ptr s.n 0,.ptr s1.n 0,out,.ptr s2.n 0]∧Loc s t∧Ow s t 3 1 out (A.length+B.length) (dk o)∧
    dX s t s.n [.bool (decide (x<0)),d] 43 false∧dX s t s1.n [.bool (decide (y<0)),e] 43 false∧dX s t s2.n [.bool false,.ah] 43 false∧
    gu o∧o.length=A.length+B.length∧0≤c∧c<1000000000∧vb o+bp (i+k)*c=vb (A.take i)*vb B+bp i*(A.getD i 0*vb (B.take k))∧(∀j,i+B.length≤j→o.getD j 0=0)∧k+m=B.length) ?_ _ B.length _ _
    ⟨o,0,0,rfl,hlt,ho,q1,q2,q3,xS,hol,Int.le_refl _,by decide,by rw [List.take_zero,show vb []=0 from rfl,Int.mul_zero,Int.mul_zero,Int.mul_zero,Int.add_zero,Int.add_zero];exact hv,hz,Nat.zero_add _⟩ (by omega)
   clear hlt ho q1 q2 q3 xS hol hv hz t
   rintro Nd m _ t ⟨o,k',c,rfl,hlt,ho,q1,q2,q3,xS,hol,Hq,ll,hv,hz,hkm⟩ nG
   by_cases hk:k'<B.length
   ·have FO:=dF mL k'
    have hoi:=dF xS (i+k')
    have hmb:=uQ MW FO
    obtain ⟨p,Cg,M4⟩:=ho.at .i64 (i:=(i:Int)+k') (by omega) (by omega)
    rw [show ((i:Int)+k').toNat=i+k' by omega,mD _ (by omega)] at M4
    obtain ⟨p',t1,Uf,e5,o5,l5,k5⟩:=ho.put hlt .i64 (i:=(i:Int)+k') (by omega) (by omega) (x:= .int .i64 ((o.getD (i+k') 0+A.getD i 0*B.getD k' 0+c) % 1000000000)) rfl
    have Lb:p'=p:=Option.some.inj (Uf.symm.trans Cg)
    subst Lb
    generalize rr:A.getD i 0*B.getD k' 0=ab at*
    simp (disch:=omega) only [jU,st,si,cS,q1.r2,q2.r2,he.len,br,Cg,M4,hd.ix,he.ix,dW,Int.toNat_natCast,rr,e5]
    have hne: ∀c,c∈aA out→s3.n≤c:=bo
    refine nG (m - 1) _ _ (by omega) ⟨o.set (i+k') ((o.getD (i+k') 0+ab+c) % 1000000000),k'+1,(o.getD (i+k') 0+ab+c) / 1000000000,rfl,l5,?_,q1.kp k5 (fun h=>by have:=hne _ h;omega),q2.kp k5 (fun h=>by have:=hne _ h;omega),q3.kp k5 (fun h=>by have:=hne _ h;omega),ku xS _ (by omega),by simpa using hol,by omega,by omega,?_,fun j hj=> ?_,by omega⟩
    ·rw [show ((i:Int)+k').toNat=i+k' by omega] at o5
     rwa [gG]
    ·rw [kS _ _ _ (by omega),nr,←Nat.add_assoc,qW]
     have h3:=carry (o.getD (i+k') 0+ab+c) (bp (i+k'))
     have h4:=lL i k'
     rw [Int.mul_add (A.getD i 0),←Int.mul_assoc (A.getD i 0),Int.mul_comm (A.getD i 0) (bp k'),Int.mul_assoc (bp k'),rr,Int.mul_add (bp i),←Int.mul_assoc (bp i) (bp k'),←h4,Int.mul_sub]
     rw [Int.mul_add,Int.mul_add] at h3
     omega
    ·rw [jT _ _ _ _ (by omega)];exact hz j hj
   ·have hkB:k'=B.length:=by omega
    subst hkB
    obtain ⟨p,t1,Uf,e5,o5,l5,k5⟩:=ho.put hlt .i64 (i:=(i:Int)+B.length) (by omega) (by omega) (x:= .int .i64 c) rfl
    simp (disch:=omega) only [jU,st,si,cS,q2.r2,he.len,br,Uf,e5]
    have hne: ∀c,c∈aA out→s3.n≤c:=bo
    refine eZ (k - 1) _ _ (by omega) ⟨o.set (i+B.length) c,i+1,rfl,l5,?_,q1.kp k5 (fun h=>by have:=hne _ h;omega),q2.kp k5 (fun h=>by have:=hne _ h;omega),q3.kp k5 (fun h=>by have:=hne _ h;omega),ku xS _ ⟨Hq,ll⟩,by simpa using hol,?_,fun j hj=> ?_,by omega⟩
    ·rw [show ((i:Int)+B.length).toNat=i+B.length by omega] at o5
     rwa [gG]
    ·rw [kS _ _ _ (by omega),hz _ (Nat.le_refl _),nr,Int.sub_zero,hv,List.take_length]
     grind
    ·rw [jT _ _ _ _ (by omega)];exact hz j (by omega)
  ·have hiA:i=A.length:=by omega
   subst hiA
   rw [List.take_length,hvx,hvy] at hv
   simp (disch:=omega) only [jU,st,si,cS,q1.r2,q2.r2,hd.len,Ze]
   have mC:Ow s t 3 1 out o.length (dk o):=by rw [hol];exact ho
   obtain ⟨x',sx,uE,hx'⟩:=B9 [.bool (decide (decide (x<0)≠decide (y<0)))] [] mC (aS _ _) rfl rfl
   obtain ⟨w,hw,t2,e5,l5,k5,n5,_⟩:=lM (dr:=false) (st:=true) hlt uE (fun b hb=>(mC.lo hb).1) (fun _ h=>by cases h) (oV (decide (decide (x<0)≠decide (y<0))) hx' xS (by omega))
   simp only [List.cons_append,List.nil_append] at e5
   rw [hv,H3] at hw
   obtain ⟨d',rfl,gj⟩:=hw
   have RD:=q3.kp k5 (fun h=>by have:=bo _ h;omega)
   simp (disch:=omega) only [jU,st,e5]
   exact ⟨_,⟨d',rfl,gj⟩,gz RD l5 hs rfl rfl (nS gj).1⟩) (by omega)
end Go.Vm.X
end
