/-
  A part of the proof of PromiseBytes: lemmas, in short letters, printed by a program out of the longer texts; conditions: those that each lemma names.
-/
import Derived.Test.YtalmddmghdinkaaGreatDoorS
set_option linter.all false
set_option linter.deprecated false
noncomputable section
namespace Go.Vm.X
open Go Go.Vm Go.Proofs.bt
theorem fB {m n:Nat} (h:m≤n):(nd m).length≤(nd n).length:=by
 rcases (show (nd m).length≤(nd n).length∨(nd n).length<(nd m).length by omega) with h1|h1
 ·exact h1
 ·have:=rM h1;omega
theorem qV (n:Nat):bp n=((1000000000 ^ n:Nat):Int):=by unfold bp;simp
theorem LB {l:List Int} (h:gu l):(nd (vb l).toNat).length≤l.length:=by
 refine mZ ?_
 have h1:=iS h
 have h2:=hJ h
 rw [qV] at h1
 omega
theorem CV.kI {v:V} {X:Nat} (h:Is .i64 v (nd X)):CV X (.agg [.bool false,v]):=⟨v,by rw [show decide ((X:Int)<0)=false from decide_eq_false (by omega)],by rw [Int.natAbs_natCast];exact h⟩
theorem cC {a b:V} (ha:az a=true) (hb:az b=true): [a,b].all az=true:=by simp [ha,hb]
theorem cU {a:V} (ha:az a=true): [a].all az=true:=by simp [ha]
theorem ED (X:Nat) {k:Int} (h0:0≤k) (hk:k<1000000000):(nd (X*k.toNat)).length≤(nd X).length+1:=by
 refine mZ ?_
 have h1:=iS (cJ X)
 rw [cn,qV] at h1
 have h2:X<1000000000 ^ (nd X).length:=by omega
 rw [Nat.pow_succ]
 calc X*k.toNat≤X*1000000000:=Nat.mul_le_mul_left _ (by omega)
  _<_:=Nat.mul_lt_mul_of_pos_right h2 (by omega)
theorem O9 {v:V} {X:Nat} {k:Int} (hv:Is .i64 v (nd X)) (hl:(nd X).length≤10000000) (h0:0≤k) (hk:k<1000000000):eL cx 196 [v,.int .i64 k] (fun r=>Is .i64 r (nd (X*k.toNat))):=fun s hs=>
 (N0 (aE (by decide))).fD 0 (by
  show bW s _ (GI cx 0 v (.int .i64 k) s)
  unfold GI
  obtain ⟨a,ha,e1⟩:=aU (dr:=false) (st:=true) (oV false hv (cJ _) (by omega)) (cC rfl hv.az) (s:=s) (by omega)
  rw [cn] at ha
  have lj:CV (X:Int) a:=ha
  obtain ⟨b,hb,e2⟩:=aU (dr:=false) (st:=true) (JQ k (by unfold fk;omega)) (cU rfl) (s:=s) (by omega)
  have h3:=mZ (x:=k.natAbs) (n:=1) (by omega)
  obtain ⟨c,hc,e3⟩:=aU (dr:=false) (st:=true) (Ip lj hb (by rw [Int.natAbs_natCast];omega) (by omega)) (cC lj.az hb.az) (s:=s) (by omega)
  obtain ⟨d,rfl,hd⟩:=hc
  have hX:((X:Int)*k).natAbs=X*k.toNat:=by rw [Int.natAbs_mul,Int.natAbs_natCast];congr 1;omega
  obtain ⟨s2,e4,b4,l4,k4,n4⟩:=cO (cs:= [.bool false,.ah]) (l:= [.bool (decide ((X:Int)*k<0)),d]) (t:=43) (z:=2) (Loc.refl hs) rfl rfl (nS hd).2
  simp (disch:=omega) only [jU,st,e1,e2,e3]
  rw [e4]
  simp (disch:=omega) only [jU,st,cS,b4.r2]
  rw [hX] at hd
  exact ⟨_,hd,aO hd.az (by omega) l4.fx⟩) (by omega)
def QR (X Y:Nat) (n:Nat) (r:V):Prop:= ∃q w l,r= .dQ [q,w]∧Is .i64 q l∧gu l∧vb l=((X / Y:Nat):Int)∧l.length≤n∧Is .i64 w (nd (X % Y))
theorem ml {X:Nat} (h:(nd X).length≤2):X<1000000000000000000:=by
 have h1:=iS (cJ X)
 rw [cn,qV] at h1
 have:1000000000 ^ (nd X).length≤1000000000 ^ 2:=Nat.pow_le_pow_right (by omega) h
 omega
theorem yc (p:Prop) [Decidable p] (j:List V→S→bB) (k:IntKind) (a b:Int) (l:List V) (s:S):ax (.bool (decide p)) (j (.int k a::l) s) (j (.int k b::l) s)=j (.int k (if p then a else b)::l) s:=by
 by_cases h:p
 ·rw [MQ _ _ h,if_pos h]
 ·rw [TG _ _ h,if_neg h]
theorem V8 {v w:V} {X Y:Nat} (hv:Is .i64 v (nd X)) (hw:Is .i64 w (nd Y)) (hY:0<Y) (hl:(nd X).length≤1000000) (fg:(nd Y).length≤1000000):eL cx 162 [v,w] (QR X Y ((nd X).length+3)):=fun s hs=>
 (NR (aE (by decide))).fD (1000000000+2) (by
  show bW s _ (Gy cx _ v w s)
  unfold Gy
  generalize hF:1000000000+2=F
  have QP:=cn X
  have M8:=cn Y
  have P6:=cJ X
  by_cases h2:(nd X).length≤2∧(nd Y).length≤2
  ·have hX:=ml h2.1
   have hY2:=ml h2.2
   have e1: ∀t:S,t.wm≤t.n→au cx false true (.fn 161 [] []) [v] t=some (.int .i64 (X:Int),t):=fun t ht=>by
    have:=bO (dr:=false) (st:=true) (G4 hv P6 h2.1) (cU hv.az) ht
    rwa [QP] at this
   have e2: ∀t:S,t.wm≤t.n→au cx false true (.fn 161 [] []) [w] t=some (.int .i64 (Y:Int),t):=fun t ht=>by
    have:=bO (dr:=false) (st:=true) (G4 hw (cJ Y) h2.2) (cU hw.az) ht
    rwa [M8] at this
   have hq:(X:Int) / Y≤X:=Int.ediv_le_self _ (by omega)
   have HD:0≤(X:Int) / Y:=Int.ediv_nonneg (by omega) (by omega)
   have sF:=Int.emod_lt_of_pos (X:Int) (show 0<(Y:Int) by omega)
   have FU:=Int.emod_nonneg (X:Int) (show (Y:Int)≠0 by omega)
   obtain ⟨a,ha,e3⟩:=aU (dr:=false) (st:=true) (JQ ((X:Int) / Y) (by unfold fk;omega)) (cU rfl) (s:=s) (by omega)
   obtain ⟨d,rfl,hd⟩:=ha
   obtain ⟨s2,e4,b4,l4,k4,n4⟩:=cO (cs:= [.bool false,.ah]) (l:= [.bool (decide ((X:Int) / Y<0)),d]) (t:=43) (z:=2) (Loc.refl hs) rfl rfl (nS hd).2
   obtain ⟨a',lj,e5⟩:=aU (dr:=false) (st:=true) (JQ ((X:Int) % Y) (by unfold fk;omega)) (cU rfl) l4.wm
   obtain ⟨d',rfl,gj⟩:=lj
   obtain ⟨s3,e6,b6,l6,k6,n6⟩:=cO (cs:= [.bool false,.ah]) (l:= [.bool (decide ((X:Int) % Y<0)),d']) (t:=43) (z:=2) l4 rfl rfl (nS gj).2
   have MN:=b4.kp k6 (by simp)
   simp (disch:=omega) only [jU,st,si,hv.len,hw.len,e1,e2,br,e3]
   rw [e4]
   have w4:=l4.wm
   simp (disch:=omega) only [jU,st,si,e1,e2,e5]
   rw [e6]
   simp (disch:=omega) only [jU,st,si,cS,MN.r2,b6.r2]
   have rB:((X:Int) / Y).natAbs=X / Y:=by rw [←Int.natCast_ediv,Int.natAbs_natCast]
   have Al:((X:Int) % Y).natAbs=X % Y:=by rw [←Int.natCast_emod,Int.natAbs_natCast]
   rw [rB] at hd
   rw [Al] at gj
   have h3:=fB (Nat.div_le_self X Y)
   exact ⟨_,⟨d,d',_,rfl,hd,cJ _,cn _,by omega,gj⟩,lR (by show (cm d && (cm d' && true))=true;rw [Fs.cm hd,Fs.cm gj];rfl) (by omega) l6.fx⟩
  ·have jh: ∀K:V→bB,(ae (an .leq y3 (.int .i64 ((nd X).length:Int)) (.int .i64 2)) fun v2=>ae (ay v2 true (some w)) fun v3=>ae (ay v2 true (aN v3)) fun v4=>ae (ay v2 true (an .leq y3 v4 (.int .i64 2))) fun v5=>ae (bn v2 v5 (.bool false)) K)=K (.bool false):=fun K=>by
    by_cases h3:(nd X).length≤2
    ·simp (disch:=omega) only [st,si,hw.len]
     rw [decide_eq_false (by omega)]
    ·simp (disch:=omega) only [st,si,hw.len]
   rw [hv.len,bV,jh]
   obtain ⟨out,s4,e4,o4,l4,k4,bo⟩:=Re (T:=types) (t:=22) (ti:=BV) (te:=iV) (x:= .int .i64 0) (n:=((nd X).length:Int)) (Loc.refl hs) rfl rfl rfl rfl rfl (by omega) (by rw [show iV.bytes=8 from rfl];omega) (by omega)
   rw [Int.toNat_natCast,←lE] at o4
   simp (disch:=omega) only [jU,st,si,hv.len,e4,br]
   have hnX:(nd X).length≤(nd X).length+3:=by omega
   generalize hA:nd X=A at*
   refine aP (bW s _) (fun j vs t=> ∃(o:List Int) (rv:V) (R:Nat),vs= [.int .i64 ((j:Int) - 1),v,w,out,rv]∧Loc s t∧Ow s t 3 1 out A.length (dk o)∧Is .i64 rv (nd R)∧R<Y∧gu o∧o.length=A.length∧vb (A.drop j)=vb (o.drop j)*Y+R∧j≤A.length) ?_ _ A.length _ _
    ⟨List.replicate A.length 0,.ah,0,rfl,l4,o4,by rw [cG];exact Is.nil _,hY,qB _,List.length_replicate,by rw [List.drop_eq_nil_of_le (Nat.le_refl _),List.drop_eq_nil_of_le (by simp)];simp [vb],Nat.le_refl _⟩ (by omega)
   rintro ih j _ t ⟨o,rv,R,rfl,hlt,ho,Bz,hR,xS,hol,hval,hjl⟩ eZ
   by_cases hj:j=0
   ·subst hj
    simp (disch:=omega) only [jU,st,si]
    rw [List.drop_zero,List.drop_zero,QP] at hval
    obtain ⟨h5,h6⟩:=uX (x:=(X:Int)) (b:=(Y:Int)) (q:=vb o) (by omega) (by omega) (by rw [Int.add_mul];omega)
    have mC:Ow s t 3 1 out o.length (dk o):=by rw [hol];exact ho
    obtain ⟨q,bs,h7,h8,rfl⟩:=mC.fz (aS _ _)
    refine ⟨_,⟨q,rv,o,rfl,h8,xS,?_,by omega,?_⟩,?_⟩
    ·rw [←h5];simp
    ·have:X % Y=R:=by
      have h9:((X % Y:Nat):Int)=(R:Int):=by rw [Int.natCast_emod,h6];omega
      omega
     rw [this];exact Bz
    ·exact th (l:= [out,rv]) (l':= [q,rv]) (bs:=aA out++([]++ [])) (.cons _ _ _ _ _ _ (.one _ _ _ h7) (.cons _ _ _ _ _ _ (.one _ _ _ (.at _ Bz.atom)) .nil)) (by simp) hs hlt (fun b hb=>by simp only [List.append_nil] at hb;exact (ho.lo hb).1)
   ·have MW:=dF P6 (j - 1)
    have KY:((j:Int) - 1).toNat=j - 1:=by omega
    obtain ⟨y1,t1,e5,o5,l5,k5,b5⟩:=qU (e:=3) (z:=1) (len:=1) hlt (ri (z:= .int .i64 0) (d:= .int .i64 (A.getD (j - 1) 0)) rfl) rfl
    have hRY:=fB (Nat.le_of_lt hR)
    obtain ⟨y2,t2,e6,o6,l6,k6,b6⟩:=CI (te:=iV) l5 o5 Bz (dZ _ _) rfl (by decide) (by rw [show iV.bytes=8 from rfl];omega)
    have o6':Ow s t2 3 1 y2 (A.getD (j - 1) 0::nd R).length (dk (A.getD (j - 1) 0::nd R)):=by
     rw [List.length_cons,Nat.add_comm];exact o6
    have hdR:gu (A.getD (j - 1) 0::nd R):=q7 MW (cJ R)
    obtain ⟨x',sx,uE,hx'⟩:=B9 [.bool false] [] o6' (aS _ _) rfl rfl
    obtain ⟨c1,ll,t3,e7,l7,k7,n7,_⟩:=lM (dr:=false) (st:=true) l6 uE (fun b hb=>(o6'.lo hb).1) (fun _ h=>by cases h) (oV false hx' hdR (by rw [List.length_cons];omega))
    simp only [List.cons_append,List.nil_append] at e7
    have IE:=LB hdR
    obtain ⟨XR,hXR⟩: ∃n:Nat,(n:Int)=A.getD (j - 1) 0+1000000000*R:=⟨(A.getD (j - 1) 0+1000000000*R).toNat,by omega⟩
    have hvR:vb (A.getD (j - 1) 0::nd R)=XR:=by simp only [vb,cn];omega
    rw [hvR,Int.toNat_natCast] at IE
    rw [hvR] at ll
    obtain ⟨d1,rfl,lX⟩:=ll
    rw [show fm false (XR:Int)=XR from rfl,Int.natAbs_natCast] at lX
    rw [show fm false (XR:Int)=XR from rfl] at e7
    obtain ⟨t4,e8,b8,l8,k8,n8⟩:=cO (cs:= [.bool false,.ah]) (l:= [.bool (decide ((XR:Int)<0)),d1]) (t:=43) (z:=2) l7 rfl rfl (by show (true && (aR d1 && true))=true;rw [Fs.aR lX];rfl)
    rw [List.length_cons] at IE
    have e9:=bO (dr:=false) (st:=false) (CQ lX hw (by omega)) (cC (Is.az lX) (Is.az hw)) l8.wm
    simp (disch:=omega) only [jU,st,si,hv.ix,dW,KY,e5,e6,e7]
    rw [e8]
    simp (disch:=omega) only [jU,st,si,cS,b8.r2,e9,yc]
    have K5:Ow s t1 3 1 out A.length (dk o):=ho.kp k5 (fun _ _=>by simp)
    have Qk: ∀b,b∈aA out→b<t.n:=fun b hb=>(ho.lo hb).2
    have ho2:Ow s t2 3 1 out A.length (dk o):=K5.kp k6 (fun b hb h=>by have:=b5 b h;have:=Qk b hb;omega)
    have ho3:Ow s t3 3 1 out A.length (dk o):=ho2.kp k7 (fun b hb h=>by
     have h9:=Qk b hb
     have h10:=k5.1
     rcases b6 b h with h11|h11
     ·have:=b5 b h11;omega
     ·omega)
    have Ud:Ow s t4 3 1 out A.length (dk o):=ho3.kp k8 (fun _ _=>by simp)
    have TY:(XR:Int)<1000000000*Y:=by omega
    have Ch: ∀a b:Int,(jb a b<0↔a<b)∧(jb a b≤0↔a≤b):=fun a b=>by unfold jb;(repeat' split)<;>constructor<;>constructor<;>omega
    refine aP (bW s _) (fun m vs u=> ∃lo hi:Int,vs= [.int .i64 hi,d1,.int .i64 lo,.int .i64 ((j:Int) - 1),v,w,out]∧t4=u∧0≤lo∧lo+m=hi∧hi≤999999999∧lo*Y≤XR∧(XR:Int)<(hi+1)*Y) ?_ _ (if jb (XR:Int) (Y:Int)<0 then 0 else 999999999) _ _
     ⟨0,if jb (XR:Int) (Y:Int)<0 then 0 else 999999999,rfl,rfl,Int.le_refl _,by split<;>simp,by split<;>omega,by omega,by
      split
      ·rename_i h;have:=(Ch _ _).1.1 h;omega
      ·exact TY⟩ (by split<;>omega)
    rintro Nd m _ _ ⟨lo,hi,rfl,rfl,acd,hlm,nF,hlY,hhY⟩ nG
    by_cases T9:lo<hi
    ·have Qn:lo<(lo+hi+1) / 2∧(lo+hi+1) / 2≤hi:=by omega
     generalize HB:(lo+hi+1) / 2=mid at Qn
     obtain ⟨T,hT,Pj⟩:=aU (dr:=false) (st:=false) (O9 hw (by omega) (k:=mid) (by omega) (by omega)) (cC (Is.az hw) rfl) l8.wm
     have hTl:=ED Y (k:=mid) (by omega) (by omega)
     have TN:=bO (dr:=false) (st:=false) (CQ hT lX (by omega)) (cC (Is.az hT) (Is.az lX)) l8.wm
     have TZ:((Y*mid.toNat:Nat):Int)=mid*Y:=by
      rw [Int.natCast_mul,Int.toNat_of_nonneg (by omega),Int.mul_comm]
     rw [TZ] at TN
     simp (disch:=omega) only [jU,st,si,br,HB,Pj,TN]
     by_cases hc:mid*Y≤(XR:Int)
     ·have xR:=(Ch (mid*Y) XR).2.2 hc
      simp (disch:=omega) only [jU,st]
      exact nG (hi - mid).toNat _ _ (by omega) ⟨mid,hi,rfl,rfl,by omega,by omega,nF,hc,hhY⟩
     ·have xR: ¬jb (mid*Y) XR≤0:=fun h=>hc ((Ch (mid*Y) XR).2.1 h)
      simp (disch:=omega) only [jU,st,si,br]
      exact nG (mid - 1 - lo).toNat _ _ (by omega) ⟨lo,mid - 1,rfl,rfl,by omega,by omega,by omega,hlY,by rw [show mid - 1+1=mid by omega];omega⟩
    ·have hlo:hi=lo:=by omega
     subst hlo
     clear nG
     obtain ⟨T,hT,Pj⟩:=aU (dr:=false) (st:=true) (O9 hw (by omega) (k:=hi) (by omega) (by omega)) (cC (Is.az hw) rfl) l8.wm
     have hTl:=ED Y (k:=hi) (by omega) (by omega)
     have TZ:((Y*hi.toNat:Nat):Int)=hi*Y:=by
      rw [Int.natCast_mul,Int.toNat_of_nonneg (by omega),Int.mul_comm]
     obtain ⟨l9,⟨p1,p2,p3⟩,y9,t9,Wt,o12,l12,k12,b12⟩:=zv (dr:=false) (st:=true) l8 (by simp [Fs.cm lX,Fs.cm hT]) (JM lX hT (cJ _) (cJ _) (by omega) (by omega) (by rw [cn,cn,TZ];exact hlY))
     rw [cn,cn,TZ] at p2
     obtain ⟨x9,sx9,KI,Yu⟩:=B9 [.bool false] [] o12 (aS _ _) rfl rfl
     obtain ⟨c2,qG,t10,Wu,l13,k13,n13,_⟩:=lM (dr:=false) (st:=true) l12 KI (fun b hb=>(o12.lo hb).1) (fun _ h=>by cases h) (oV false Yu p1 (by omega))
     simp only [List.cons_append,List.nil_append] at Wu
     obtain ⟨R',hR'⟩: ∃n:Nat,(n:Int)=(XR:Int) - hi*Y:=⟨((XR:Int) - hi*Y).toNat,by omega⟩
     rw [p2,←hR'] at qG
     obtain ⟨d2,rfl,sE⟩:=qG
     rw [show fm false (R':Int)=R' from rfl,Int.natAbs_natCast] at sE
     rw [show fm false (R':Int)=R' from rfl] at Wu
     obtain ⟨t11,e14,b14,l14,k14,n14⟩:=cO (cs:= [.bool false,.ah]) (l:= [.bool (decide ((R':Int)<0)),d2]) (t:=43) (z:=2) l13 rfl rfl (by show (true && (aR d2 && true))=true;rw [Fs.aR sE];rfl)
     have ho9:Ow s t9 3 1 out A.length (dk o):=Ud.kp k12 (fun _ _=>by simp)
     have XU: ∀b,b∈aA out→b<t4.n:=fun b hb=>(Ud.lo hb).2
     have Qu:Ow s t10 3 1 out A.length (dk o):=ho9.kp k13 (fun b hb h=>by have:=b12 b h;have:=XU b hb;omega)
     have X0:Ow s t11 3 1 out A.length (dk o):=Qu.kp k14 (fun _ _=>by simp)
     obtain ⟨p,t12,e15,e16,o16,l16,k16⟩:=X0.put l14 .i64 (i:=(j:Int) - 1) (by omega) (by omega) (x:= .int .i64 hi) rfl
     rw [KY,←gG] at o16
     have b16:=b14.kp k16 (fun h=>by have:=(Qu.lo h).2;omega)
     simp (disch:=omega) only [jU,st,si,Pj,Wt,Wu]
     rw [e14]
     simp (disch:=omega) only [jU,st,si,e15,e16,cS,b16.r2,br]
     refine eZ (j - 1) _ _ (by omega) ⟨o.set (j - 1) hi,d2,R',by rw [show ((j - 1:Nat):Int) - 1=(j:Int) - 1 - 1 by omega],l16,o16,sE,?_,ku xS _ (by omega),by simpa using hol,?_,by omega⟩
     ·rw [Int.add_mul] at hhY;omega
     ·have Px:=eJ A (i:=j - 1) (by omega)
      have MS:=eJ (o.set (j - 1) hi) (i:=j - 1) (by simp;omega)
      rw [show j - 1+1=j by omega] at Px MS
      have TU:(o.set (j - 1) hi).getD (j - 1) 0=hi:=by simp [List.getD_eq_getElem?_getD,List.getElem?_set,show j - 1<o.length by omega]
      have WH:(o.set (j - 1) hi).drop j=o.drop j:=List.drop_set_of_lt (by omega)
      rw [Px,MS,TU,WH,hval,Int.add_mul,Int.mul_assoc]
      omega) (by omega)
theorem vR {s₀ s:S} {z len e:Nat} {ps:List (Nat×Nat×V)} {c l:List V} {r:Reach} (hl:Loc s₀ s) (hf:aI c ps=some (.agg l)) (hc:l.length=len*z):
  ∃v' s' hi,dD r (some []) s (dL z len e c ps (aw s))=some (v',s',lh r s.n hi [])∧Ow s₀ s' e z v' len l∧Loc s₀ s'∧Kp s s' []∧(∀b,b∈aA v'→s.n≤b):=by
 obtain ⟨v',s',e1,o1,l1,k1,b1⟩:=qU (e:=e) hl hf hc
 unfold dL at e1 ⊢
 rw [hf] at e1 ⊢
 simp only [aq,Option.some.injEq,Prod.mk.injEq] at e1
 obtain ⟨rfl,rfl⟩:=e1
 refine ⟨_,_,s.n+1,?_,o1,l1,k1,b1⟩
 unfold dD lh
 simp only []
 congr 4
 split<;>rfl
theorem Bf {b1 b2 c d l1 l2 l3 l4:Nat} (h:c≠b2):bE [0,0,1,7] [lh (some [b1]) l1 l1 [],lh (some [b2]) l2 l2 [],⟨⟨some [c],some [c],l3,l3⟩, []⟩,⟨⟨some [d],some [d],l4,l4⟩, []⟩]=true:=by
 have h1: ∀n:Nat,(Nat.ble n c && Nat.blt c n)=false:=fun n=>by
  cases h2:Nat.blt c n with
  |false=>simp
  |true=>
   rw [Nat.blt_eq] at h2
   have:Nat.ble n c=false:=by
    cases h3:Nat.ble n c with
    |false=>rfl
    |true=>rw [Nat.ble_eq] at h3;omega
   rw [this];rfl
 have f1:fixed [0,0,1,7] 2 0=true∧fixed [0,0,1,7] 2 2=true∧fixed [0,0,1,7] 2 3=true∧fixed [0,0,1,7] 3 0=true∧fixed [0,0,1,7] 3 1=true∧fixed [0,0,1,7] 3 2=true∧fixed [0,0,1,7] 3 3=true:=by decide
 obtain ⟨f20,f22,f23,f30,f31,f32,f33⟩:=f1
 have hcl:(⟨some [c],some [c],l3,l3⟩:de).fF (lh (some [b2]) l2 l2 []).f=false:=by
  simp only [de.fF,lh,Reach.meets,List.any_cons,List.any_nil,h1]
  simp [h]
 unfold bE
 rw [Bool.and_eq_true]
 constructor
 ·simp only [List.zipIdx,List.all_cons,List.all_nil,lh,f20,f22,f23,f30,f31,f32,f33,Bool.or_true,Bool.and_true,Bool.true_and,Nat.zero_add]
  have:=hcl
  simp only [lh] at this
  simp only [this,Bool.not_false,Bool.true_or]
 ·simp [MF,lh,Reach.meets]
theorem Hd {x y q r:Int} (h:x=q*y+r) (h0:0≤r) (h1:r<y.natAbs):x / y=q∧x % y=r:=by
 rcases (show 0<y∨y<0 by omega) with hy|hy
 ·obtain ⟨h2,h3⟩:=uX (x:=x) (b:=y) (q:=q) hy (by omega) (by rw [Int.add_mul];omega)
  exact ⟨h2,by omega⟩
 ·have hq:(-q)*(-y)=q*y:=Int.neg_mul_neg q y
  obtain ⟨h2,h3⟩:=uX (x:=x) (b:= -y) (q:= -q) (by omega) (by omega) (by rw [Int.add_mul];omega)
  rw [Int.ediv_neg] at h2
  rw [Int.emod_neg] at h3
  exact ⟨by omega,by omega⟩
theorem Bc {x y:Int} (hy:y≠0):
  (¬(x<0∧0<x.natAbs % y.natAbs)→fm (decide (decide (x<0)≠decide (y<0))) ((x.natAbs / y.natAbs:Nat):Int)=x / y∧((x.natAbs % y.natAbs:Nat):Int)=x % y)∧
  (x<0∧0<x.natAbs % y.natAbs→fm (decide (decide (x<0)≠decide (y<0))) ((x.natAbs / y.natAbs:Nat):Int)+fm (decide (decide (x<0)≠decide (y<0))) 1=x / y∧(y.natAbs:Int) - ((x.natAbs % y.natAbs:Nat):Int)=x % y):=by
 have Ab:=Nat.div_add_mod x.natAbs y.natAbs
 have hlt:=Nat.mod_lt x.natAbs (show y.natAbs>0 by omega)
 generalize x.natAbs / y.natAbs=q at*
 generalize x.natAbs % y.natAbs=r at*
 have KB:(y.natAbs:Int)*q+r=x.natAbs:=by exact_mod_cast Ab
 have hc:(y.natAbs:Int)*q=q*y.natAbs:=Int.mul_comm _ _
 have key: ∀(Q R:Int),x=Q*y+R→0≤R→R<y.natAbs→Q=x / y∧R=x % y:=fun Q R h h0 h1=>by
  have:=Hd h h0 h1;exact ⟨this.1.symm,this.2.symm⟩
 constructor
 ·intro h
  by_cases hx:x<0
  ·have hr:r=0:=by omega
   subst hr
   refine key _ _ ?_ (by omega) (by omega)
   unfold fm
   by_cases El:y<0
   ·simp only [hx,El,decide_true,ne_eq,not_true,decide_false,Bool.false_eq_true, ↓reduceIte]
    have hN:(y.natAbs:Int)*q= -((q:Int)*y):=by rw [show (y.natAbs:Int)= -y by omega,Int.neg_mul,Int.mul_comm]
    omega
   ·simp only [hx,El,decide_true,decide_false,ne_eq,Bool.true_eq_false,not_false_iff, ↓reduceIte]
    rw [show (y.natAbs:Int)=y by omega] at hc KB
    rw [Int.neg_mul];omega
  ·refine key _ _ ?_ (by omega) (by omega)
   unfold fm
   by_cases El:y<0
   ·simp only [hx,El,decide_true,decide_false,ne_eq,Bool.false_eq_true,not_false_iff, ↓reduceIte]
    have hN:(y.natAbs:Int)*q= -((q:Int)*y):=by rw [show (y.natAbs:Int)= -y by omega,Int.neg_mul,Int.mul_comm]
    rw [Int.neg_mul];omega
   ·simp only [hx,El,decide_false,ne_eq,not_true,Bool.false_eq_true, ↓reduceIte]
    rw [show (y.natAbs:Int)=y by omega] at hc KB
    omega
 ·rintro ⟨hx,hr⟩
  refine key _ _ ?_ (by omega) (by omega)
  unfold fm
  by_cases El:y<0
  ·simp only [hx,El,decide_true,ne_eq,not_true,decide_false,Bool.false_eq_true, ↓reduceIte]
   have hN:(y.natAbs:Int)*q= -((q:Int)*y):=by rw [show (y.natAbs:Int)= -y by omega,Int.neg_mul,Int.mul_comm]
   rw [Int.add_mul];omega
  ·simp only [hx,El,decide_true,decide_false,ne_eq,Bool.true_eq_false,not_false_iff, ↓reduceIte]
   rw [show (y.natAbs:Int)=y by omega] at hc KB
   rw [Int.add_mul,Int.neg_mul];omega
theorem JD {l m:List V} (h:l.all atom=true) (h':m.all atom=true):az (.dQ [.agg l,.agg m])=true:=by
 show (l.all atom && (m.all atom && true))=true
 rw [h,h'];rfl
def CV2 (x y:Int) (r:V):Prop:= ∃u w,r= .dQ [u,w]∧CV x u∧CV y w
theorem JK {x y:Int} {a b:V} (ha:CV x a) (hb:CV y b) (hy:y≠0) (hl:(nd x.natAbs).length≤1000000) (fg:(nd y.natAbs).length≤1000000):eL cx 113 [a,b] (CV2 (x / y) (x % y)):=fun s hs=>
 (Nz (aE (by decide))).fD 0 (by
  obtain ⟨d,rfl,hd⟩:=ha
  obtain ⟨e,rfl,he⟩:=hb
  show bW s _ (Gf cx 0 (.agg [.bool (decide (x<0)),d]) (.agg [.bool (decide (y<0)),e]) s)
  unfold Gf
  obtain ⟨s1,e1,b1,l1,k1,n1⟩:=ca [.bool (decide (x<0)),d] 43 (Loc.refl hs)
  obtain ⟨s2,e2,b2,l2,k2,n2⟩:=ca [.bool (decide (y<0)),e] 43 l1
  obtain ⟨s3,e3,b3,l3,k3,n3⟩:=ca [.bool false,.ah] 43 l2
  obtain ⟨s4,e4,b4,l4,k4,n4⟩:=ca [.bool false,.ah] 43 l3
  have eX:=((b1.kp k2 (by simp)).kp k3 (by simp)).kp k4 (by simp)
  have kr:=(b2.kp k3 (by simp)).kp k4 (by simp)
  have Im:=b3.kp k4 (by simp)
  have hYn:(nd y.natAbs).length≠0:=fun h=>by
   have:=I6 (List.length_eq_zero_iff.1 h);omega
  have hds:=Bc (x:=x) hy
  obtain ⟨qr,⟨q,w,l,rfl,hq,QC,hqv,Lc,hw⟩,e5⟩:=aU (dr:=false) (st:=false) (V8 hd he (by omega) hl fg) (cC (Is.az hd) (Is.az he)) l4.wm
  obtain ⟨u,hu,e6⟩:=aU (dr:=false) (st:=true) (oV (decide (decide (x<0)≠decide (y<0))) hq QC (by omega)) (cC rfl hq.az) l4.wm
  rw [hqv] at hu
  obtain ⟨du,rfl,FR⟩:=hu
  obtain ⟨s5,e7,b5,l5,k5,n5⟩:=cO (cs:= [.bool false,.ah]) (l:= [.bool (decide (fm (decide (decide (x<0)≠decide (y<0))) ((x.natAbs / y.natAbs:Nat):Int)<0)),du]) (t:=43) (z:=2) l4 rfl rfl (nS FR).2
  have TY:x.natAbs % y.natAbs<y.natAbs:=Nat.mod_lt _ (by omega)
  have hrl:=fB (Nat.le_of_lt TY)
  obtain ⟨r0,FU,e8⟩:=aU (dr:=false) (st:=true) (oV false hw (cJ _) (by omega)) (cC rfl hw.az) l5.wm
  rw [cn] at FU
  obtain ⟨J0,rfl,uC⟩:=FU
  rw [show fm false ((x.natAbs % y.natAbs:Nat):Int)=((x.natAbs % y.natAbs:Nat):Int) from rfl] at uC e8
  obtain ⟨s6,e9,b6,l6,k6,n6⟩:=cO (cs:= [.bool false,.ah]) (l:= [.bool (decide (((x.natAbs % y.natAbs:Nat):Int)<0)),J0]) (t:=43) (z:=2) l5 rfl rfl (nS uC).2
  have q1:=(eX.kp k5 (by simp)).kp k6 (by simp)
  have q2:=(kr.kp k5 (by simp)).kp k6 (by simp)
  have q3:=(Im.kp k5 (by simp)).kp k6 (by simp)
  have q4:=(b4.kp k5 (by simp)).kp k6 (by simp)
  have q5:=b5.kp k6 (by simp)
  have Il:=eX.kp k5 (by simp)
  have TC:=kr.kp k5 (by simp)
  simp (disch:=omega) only [jU,st,si,dt,e1,e2,e3,e4,cS,eX.r2,kr.r2,he.len,e5,Ze,e6]
  rw [e7]
  simp (disch:=omega) only [jU,st,e8]
  rw [e9]
  have fin: ∀(t:S) (uu ww:V),Loc s t→dX s t s2.n [.bool false,.ah] 43 false→dX s t s3.n [.bool false,.ah] 43 false→Is .i64 uu (nd (x / y).natAbs)→Is .i64 ww (nd (x % y).natAbs)→
    ∃t1 t2,dD (some (ag.aF (.ptr s2.n 0))) (some (ag.aF (.ptr s2.n 0))) t (aB 2 (.ptr s2.n 0) (.agg [.bool (decide (x / y<0)),uu]) (aw t))=some (.bad,t1,⟨⟨some [s2.n],some [s2.n],t.n,t.n⟩, []⟩)∧
     dD (some (ag.aF (.ptr s3.n 0))) (some (ag.aF (.ptr s3.n 0))) t1 (aB 2 (.ptr s3.n 0) (.agg [.bool (decide (x % y<0)),ww]) (aw t1))=some (.bad,t2,⟨⟨some [s3.n],some [s3.n],t1.n,t1.n⟩, []⟩)∧
     ∃v,CV2 (x / y) (x % y) v∧aC s t2 [aD 2 t2 (.ptr s2.n 0),aD 2 t2 (.ptr s3.n 0)]=some (v,s):=by
   intro t uu ww hlt p3 p4 M7 An
   obtain ⟨t1,f1,c1,m1,j1,_⟩:=p3.mN (r:=some (ag.aF (.ptr s2.n 0))) (w:=some (ag.aF (.ptr s2.n 0))) (z:=2) hlt rfl rfl (nS M7).2
   have Qe:=b3.hi
   obtain ⟨t2,f2,c2,m2,j2,_⟩:=(p4.kp j1 (by simp;omega)).mN (r:=some (ag.aF (.ptr s3.n 0))) (w:=some (ag.aF (.ptr s3.n 0))) (z:=2) m1 rfl rfl (nS An).2
   have B7:=c1.kp j2 (by simp;omega)
   refine ⟨t1,t2,f1,f2,_,⟨_,_,rfl,⟨uu,rfl,M7⟩,⟨ww,rfl,An⟩⟩,?_⟩
   rw [B7.r2.2.2,c2.r2.2.2]
   exact lR (JD (nS M7).1 (nS An).1) (by omega) m2.fx
  have hi5:=b5.hi
  have hi4:=b4.hi
  have Qe:=b3.hi
  have Hz:=b2.hi
  by_cases Ko:x<0∧0<x.natAbs % y.natAbs
  ·obtain ⟨nT,sF⟩:=hds.2 Ko
   have acp:0<(nd (x.natAbs % y.natAbs)).length:=List.length_pos_iff.2 (rN (by omega))
   rw [Int.natAbs_natCast] at uC
   obtain ⟨v1,t1,yB,f1,o1,m1,j1,g1⟩:=vR (e:=3) (z:=1) (len:=1) (r:=some []) l6 (ri (z:= .int .i64 0) (d:= .int .i64 1) rfl) rfl
   have FW:Ow s t1 3 1 v1 [(1:Int)].length (dk [1]):=o1
   obtain ⟨x',sx,uE,hx'⟩:=B9 [.bool (decide (decide (x<0)≠decide (y<0)))] [] FW (aS _ _) rfl rfl
   obtain ⟨c1,ll,t2,f2,m2,j2,Ng,_⟩:=xZ m1 uE (fun b hb=>(FW.lo hb).1) (oV (decide (decide (x<0)≠decide (y<0))) hx' (oc (by omega)) (by simp))
   simp only [List.cons_append,List.nil_append] at f2
   rw [show vb [(1:Int)]=1 from rfl] at ll
   have xT:CV (fm (decide (decide (x<0)≠decide (y<0))) ((x.natAbs / y.natAbs:Nat):Int)) (.agg [.bool (decide (fm (decide (decide (x<0)≠decide (y<0))) ((x.natAbs / y.natAbs:Nat):Int)<0)),du]):=⟨du,rfl,FR⟩
   have acm:=fB (Nat.div_le_self x.natAbs y.natAbs)
   have rr:(fm (decide (decide (x<0)≠decide (y<0))) ((x.natAbs / y.natAbs:Nat):Int)).natAbs=x.natAbs / y.natAbs:=by rw [ik _ (Int.natCast_nonneg _),Int.toNat_natCast]
   have Xc:(fm (decide (decide (x<0)≠decide (y<0))) 1).natAbs=1:=by rw [ik _ (by omega)];rfl
   have pX:=mZ (x:=1) (n:=1) (by omega)
   obtain ⟨c2,qG,f3⟩:=dM (c70 xT ll (by rw [rr];omega) (by rw [Xc];omega)) (cC xT.az ll.az) m2.wm
   rw [nT] at qG
   obtain ⟨uu,rfl,M7⟩:=qG
   have Ca: ∀n,n<s6.n→n∉aA v1:=fun n hn h=>by have:=g1 n h;omega
   have hi6:=b6.hi
   have c5:=(q5.kp j1 (by simp)).kp j2 (Ca _ (by omega))
   have c1b:=(q1.kp j1 (by simp)).kp j2 (Ca _ (by omega))
   have c2b:=(q2.kp j1 (by simp)).kp j2 (Ca _ (by omega))
   have c3b:=(q3.kp j1 (by simp)).kp j2 (Ca _ (by omega))
   have c4b:=(q4.kp j1 (by simp)).kp j2 (Ca _ (by omega))
   have c6b:=(b6.kp j1 (by simp)).kp j2 (Ca _ (by omega))
   obtain ⟨t3,f4,d5,m3,j3,n3'⟩:=c5.mN (r:=some (ag.aF (.ptr s4.n 0))) (w:=some (ag.aF (.ptr s4.n 0))) (z:=2) m2 rfl rfl (nS M7).2
   replace f4:dD (some (ag.aF (.ptr s4.n 0))) (some (ag.aF (.ptr s4.n 0))) t2 (aB 2 (.ptr s4.n 0) (.agg [.bool (decide (x / y<0)),uu]) (aw t2))=some (.bad,t3,⟨⟨some [s4.n],some [s4.n],t2.n,t2.n⟩, []⟩):=f4
   have d2:=c2b.kp j3 (by simp;omega)
   have d3:=c3b.kp j3 (by simp;omega)
   have d4:=c4b.kp j3 (by simp;omega)
   have d6:=c6b.kp j3 (by simp;omega)
   obtain ⟨l9,⟨p1,p2,p3⟩,v9,t4,f5,o9,m4,j4,g4⟩:=zv (dr:=false) (st:=true) m3 (by simp [Fs.cm he,Fs.cm uC]) (JM he uC (cJ _) (cJ _) (by omega) (by omega) (by rw [cn,cn];omega))
   rw [cn,cn,sF] at p2
   obtain ⟨x9,sx9,KI,Yu⟩:=B9 [.bool false] [] o9 (aS _ _) rfl rfl
   obtain ⟨c9,T2,t5,f6,m5,j5,n5',_⟩:=lM (dr:=false) (st:=true) m4 KI (fun b hb=>(o9.lo hb).1) (fun _ h=>by cases h) (oV false Yu p1 (by omega))
   simp only [List.cons_append,List.nil_append] at f6
   rw [p2] at T2
   obtain ⟨ww,rfl,An⟩:=T2
   rw [show fm false (x % y)=x % y from rfl] at An f6
   have Pt: ∀n,n<t3.n→n∉aA v9:=fun n hn h=>by have:=g4 n h;omega
   have MX:=d5.hi
   have Xh:=d6.hi
   have PR:=d4.hi
   have z7:=d3.hi
   have w6:=(d6.kp j4 (by simp)).kp j5 (Pt _ Xh)
   have w5:=(d5.kp j4 (by simp)).kp j5 (Pt _ MX)
   have w4:=(d4.kp j4 (by simp)).kp j5 (Pt _ PR)
   have w3:=(d3.kp j4 (by simp)).kp j5 (Pt _ z7)
   obtain ⟨t6,f7,z6,m6,j6,n6'⟩:=w6.put (l:= [.bool (decide (x % y<0)),ww]) (z:=2) m5 rfl rfl (nS An).2
   have z5:=w5.kp j6 (by simp;omega)
   have z4:=w4.kp j6 (by simp;omega)
   have z3:=w3.kp j6 (by simp;omega)
   obtain ⟨t7,t8,f8,f9,hend⟩:=fin t6 uu ww m6 z3 z4 M7 An
   have Ys:=Ko.1
   simp (disch:=omega) only [jU,st,si,sf,cS,q1.r2,q2.r2,q5.r2,b6.r2,uC.len,Ze,f1,f2,f3,f4]
   refine wU (vA (fl:= [_,_,_,_,_,_,_,_,_]) (b:=s4.n) 9 rfl (by decide) ?_) ?_
   ·repeat' first|exact trivial|apply Qs.c0|apply Qs.cz
    intro c hc
    simp only [List.mem_singleton] at hc
    subst hc
    exact Ca _ (by omega)
   ·simp (disch:=omega) only [jU,st,si,sf,cS,d2.r2,d6.r2,f5,f6,f7,z5.r2,z6.r2,f8,f9]
    exact wU (Bf (by omega)) hend
  ·obtain ⟨nT,sF⟩:=hds.1 Ko
   rw [nT] at FR q5
   rw [sF] at b6
   have XA:Is .i64 J0 (nd (x % y).natAbs):=by rw [←sF];exact uC
   obtain ⟨t1,t2,f1,f2,hend⟩:=fin s6 du J0 l6 q3 q4 FR XA
   rw [Int.natAbs_natCast] at uC
   by_cases Ys:x<0
   ·have hz:(nd (x.natAbs % y.natAbs)).length=0:=by rw [show x.natAbs % y.natAbs=0 by omega,cG];rfl
    simp (disch:=omega) only [jU,st,si,sf,cS,q1.r2,b6.r2,q5.r2,uC.len,f1,f2]
    exact wU (Bf (by omega)) hend
   ·simp (disch:=omega) only [jU,st,si,sf,cS,q1.r2,b6.r2,q5.r2,f1,f2]
    exact wU (Bf (by omega)) hend) (by omega)
theorem CV.nat {X:Nat} {r:V} (h:CV (X:Int) r): ∃d,r= .agg [.bool false,d]∧Is .i64 d (nd X):=by
 obtain ⟨d,rfl,hd⟩:=h
 rw [Int.natAbs_natCast] at hd
 exact ⟨d,by rw [show decide ((X:Int)<0)=false from decide_eq_false (by omega)],hd⟩
theorem ff {d:V} {l:List Int} (hd:Is .i64 d l):([.bool false,d]:List V).all aR=true∧([.bool false,d]:List V).all atom=true:=by
 constructor
 ·show (true && (aR d && true))=true;rw [Fs.aR hd];rfl
 ·show (true && (atom d && true))=true;rw [Is.atom hd];rfl
theorem om (X Y:Nat):Nat.gcd X Y=Nat.gcd Y (X % Y):=by
 rw [Nat.gcd_comm X Y,Nat.gcd_rec Y X,Nat.gcd_comm]
theorem OV {x y:Int} {a b:V} (ha:CV x a) (hb:CV y b) (hl:(nd x.natAbs).length≤1000000) (fg:(nd y.natAbs).length≤1000000):eL cx 112 [a,b] (CV ((Nat.gcd x.natAbs y.natAbs:Nat):Int)):=fun s hs=>
 (Ny (aE (by decide))).fD (y.natAbs+1000000000000000002) (by
  obtain ⟨d,rfl,hd⟩:=ha
  obtain ⟨e,rfl,he⟩:=hb
  show bW s _ (Ge cx _ (.agg [.bool (decide (x<0)),d]) (.agg [.bool (decide (y<0)),e]) s)
  unfold Ge
  generalize hF:y.natAbs+1000000000000000002=F
  obtain ⟨s1,e1,b1,l1,k1,n1⟩:=ca [.bool (decide (x<0)),d] 43 (Loc.refl hs)
  obtain ⟨s2,e2,b2,l2,k2,n2⟩:=ca [.bool (decide (y<0)),e] 43 l1
  obtain ⟨s3,e3,b3,l3,k3,n3⟩:=ca [.bool false,.ah] 43 l2
  have eX:=(b1.kp k2 (by simp)).kp k3 (by simp)
  have kr:=b2.kp k3 (by simp)
  obtain ⟨u,hu,e4⟩:=aU (dr:=false) (st:=true) (oV false hd (cJ _) (by omega)) (cC rfl (Is.az hd)) l3.wm
  rw [cn] at hu
  obtain ⟨du,rfl,FR⟩:=CV.nat hu
  obtain ⟨s4,e5,b4,l4,k4,n4⟩:=cO (cs:= [.bool false,.ah]) (l:= [.bool false,du]) (t:=43) (z:=2) l3 rfl rfl (ff FR).1
  have TC:=kr.kp k4 (by simp)
  obtain ⟨w,hw,e6⟩:=aU (dr:=false) (st:=true) (oV false he (cJ _) (by omega)) (cC rfl (Is.az he)) l4.wm
  rw [cn] at hw
  obtain ⟨dw,rfl,DO⟩:=CV.nat hw
  obtain ⟨s5,e7,b5,l5,k5,n5⟩:=cO (cs:= [.bool false,.ah]) (l:= [.bool false,dw]) (t:=43) (z:=2) l4 rfl rfl (ff DO).1
  have MN:=b4.kp k5 (by simp)
  have Im:=(b3.kp k4 (by simp)).kp k5 (by simp)
  have Qe:=b3.hi
  have hi4:=b4.hi
  simp (disch:=omega) only [jU,st,dt,e1,e2,e3,cS,eX.r2,e4]
  rw [e5]
  simp (disch:=omega) only [jU,st,cS,TC.r2,e6]
  rw [e7]
  simp (disch:=omega) only [jU]
  refine aP (bW s _) (fun k vs t=> ∃(X Y:Nat) (dx dy:V),vs= [.ptr s4.n 0,.ptr s3.n 0,.ptr s2.n 0]∧Loc s t∧dX s t s4.n [.bool false,dy] 43 false∧dX s t s3.n [.bool false,dx] 43 false∧dX s t s2.n [.bool false,.ah] 43 false∧
   Is .i64 dx (nd X)∧Is .i64 dy (nd Y)∧(nd X).length≤1000000∧(nd Y).length≤1000000∧Nat.gcd x.natAbs y.natAbs=Nat.gcd X Y∧k=Y) ?_ _ y.natAbs _ _
   ⟨x.natAbs,y.natAbs,du,dw,rfl,l5,b5,MN,Im,FR,DO,hl,fg,rfl,rfl⟩ (by omega)
  rintro ih k _ t ⟨X,Y,dx,dy,rfl,hlt,qy,qx,qr,oO,mL,XV,Qm,hg,rfl⟩ eZ
  by_cases hY:k=0
  ·subst hY
   have hz:(nd 0).length=0:=by rw [cG];rfl
   simp (disch:=omega) only [jU,st,si,cS,qy.r2,qx.r2,mL.len]
   rw [hg,Nat.gcd_zero_right]
   exact ⟨_,CV.kI oO,gz qr hlt hs rfl rfl (ff oO).2⟩
  ·have hpos:0<(nd k).length:=List.length_pos_iff.2 (rN hY)
   by_cases h2:(nd X).length≤2∧(nd k).length≤2
   ·have hX:=ml h2.1
    have hk2:=ml h2.2
    have f1:=bO (dr:=false) (st:=false) (G4 oO (cJ _) h2.1) (cU oO.az) hlt.wm
    have f2:=bO (dr:=false) (st:=false) (G4 mL (cJ _) h2.2) (cU mL.az) hlt.wm
    rw [cn] at f1 f2
    have MS:=h2.1
    have TU:=h2.2
    simp (disch:=omega) only [jU,st,si,cS,qy.r2,qx.r2,mL.len,oO.len,f1,f2]
    refine aP (bW s _) (fun j vs u=> ∃(m n:Nat),vs= [.int .i64 n,.int .i64 m,.ptr s2.n 0]∧t=u∧Nat.gcd x.natAbs y.natAbs=Nat.gcd m n∧j=n∧m<1000000000000000000∧n<1000000000000000000) ?_ _ k _ _
     ⟨X,k,rfl,rfl,hg,rfl,hX,hk2⟩ (by omega)
    rintro Nd j _ _ ⟨m,n,rfl,rfl,Hw,rfl,hm,K3⟩ nG
    by_cases hj:j=0
    ·subst hj
     have XX:fk (m:Int):=by unfold fk;omega
     obtain ⟨c,hc,f3⟩:=aU (dr:=false) (st:=true) (JQ (m:Int) XX) (cU rfl) hlt.wm
     obtain ⟨dc,rfl,iU⟩:=CV.nat hc
     simp (disch:=omega) only [jU,st,si,show ((0:Nat):Int)=0 from rfl,f3]
     rw [Hw,Nat.gcd_zero_right]
     exact ⟨_,CV.kI iU,gz qr hlt hs rfl rfl (ff iU).2⟩
    ·have Ah:=Nat.mod_lt m (show j>0 by omega)
     simp (disch:=omega) only [jU,st,si]
     exact nG (m % j) _ _ Ah ⟨j,m % j,by rw [Int.natCast_emod],rfl,by rw [Hw];exact om m j,rfl,K3,by omega⟩
   ·have jh: ∀K:V→bB,(ae (ay (.bool (decide (((nd X).length:Int)≤2))) true (some (.ptr s4.n 1))) fun v46=>ae (ay (.bool (decide (((nd X).length:Int)≤2))) true (aM t v46)) fun v47=>ae (ay (.bool (decide (((nd X).length:Int)≤2))) true (aN v47)) fun v48=>
      ae (ay (.bool (decide (((nd X).length:Int)≤2))) true (an .leq y3 v48 (.int .i64 2))) fun FZ=>ae (bn (.bool (decide (((nd X).length:Int)≤2))) FZ (.bool false)) K)=K (.bool false):=fun K=>by
     by_cases h3:(nd X).length≤2
     ·simp (disch:=omega) only [st,si,cS,qy.r2,mL.len]
      rw [decide_eq_false (by omega)]
     ·simp (disch:=omega) only [st,si]
    have D3:X % k<k:=Nat.mod_lt _ (by omega)
    obtain ⟨r2,⟨ru,rw',rfl,IT,Uk⟩,f1⟩:=aU (dr:=false) (st:=true) (JK (CV.kI oO) (CV.kI mL) (by omega) (by rw [Int.natAbs_natCast];exact XV) (by rw [Int.natAbs_natCast];exact Qm)) (cC (CV.kI oO).az (CV.kI mL).az) hlt.wm
    obtain ⟨dq,rfl,Xz⟩:=IT
    rw [←Int.natCast_emod] at Uk
    obtain ⟨dm,rfl,Ab⟩:=CV.nat Uk
    obtain ⟨t1,f2,c1,m1,j1,_⟩:=ca [.bool false,.ah] 43 hlt
    obtain ⟨t2,f3,c2,m2,j2,_⟩:=ca [.bool false,.ah] 43 m1
    have ll:=c1.hi
    obtain ⟨t3,f4,c3,m3,j3,_⟩:=(c1.kp j2 (by simp)).put (l:= [.bool (decide ((X:Int) / k<0)),dq]) (z:=2) m2 rfl rfl (nS Xz).2
    obtain ⟨t4,f5,c4,m4,j4,_⟩:=(c2.kp j3 (by simp;omega)).put (l:= [.bool false,dm]) (z:=2) m3 rfl rfl (ff Ab).1
    have hqy:=qy.hi
    have hqx:=qx.hi
    have hqr:=qr.hi
    have py:=(((qy.kp j1 (by simp)).kp j2 (by simp)).kp j3 (by simp;omega)).kp j4 (by simp;omega)
    have px:=(((qx.kp j1 (by simp)).kp j2 (by simp)).kp j3 (by simp;omega)).kp j4 (by simp;omega)
    have pr:=(((qr.kp j1 (by simp)).kp j2 (by simp)).kp j3 (by simp;omega)).kp j4 (by simp;omega)
    obtain ⟨t5,f6,Zu,m5,j5,_⟩:=px.put (l:= [.bool false,dy]) (z:=2) m4 rfl rfl (ff mL).1
    have TD:=c4.kp j5 (by simp;omega)
    obtain ⟨t6,f7,Zv,m6,j6,_⟩:=(py.kp j5 (by simp;omega)).put (l:= [.bool false,dm]) (z:=2) m5 rfl rfl (ff Ab).1
    simp (disch:=omega) only [jU,st,si,cS,qy.r2,qx.r2,mL.len,oO.len]
    rw [jh]
    simp (disch:=omega) only [jU,st,si,cS,qy.r2,qx.r2,f1,f2,f3,f4,f5,py.r2,f6,TD.r2,f7]
    exact eZ (X % k) _ _ D3 ⟨k,X % k,dy,dm,rfl,m6,Zv,Zu.kp j6 (by simp;omega),(pr.kp j5 (by simp;omega)).kp j6 (by simp;omega),mL,Ab,Qm,by have:=fB (Nat.le_of_lt D3);omega,by rw [hg];exact om X k,rfl⟩) (by omega)
def RV (neg:Bool) (l:List Int) (r:V):Prop:= ∃d,r= .agg [.bool neg,d]∧Is .i64 d l
theorem RV.atoms {neg:Bool} {l:List Int} {d:V} (hd:Is .i64 d l):([.bool neg,d]:List V).all aR=true∧([.bool neg,d]:List V).all atom=true:=by
 constructor
 ·show (aR (.bool neg) && (aR d && true))=true;rw [Fs.aR hd];rfl
 ·show (atom (.bool neg) && (atom d && true))=true;rw [Is.atom hd];rfl
theorem RV.az {neg:Bool} {l:List Int} {r:V} (h:RV neg l r):X.az r=true:=by
 obtain ⟨d,rfl,hd⟩:=h;exact (RV.atoms hd).2
def Av (x:Int):Bool:=decide (0≤x) && decide (x<1000000000)
def sG (neg:Bool) (l:List Int):Bool:=l.all Av && (if l.length=0 then !neg else decide (l.getD (l.length - 1) 0≠0))
theorem oB (x:Int):Av x=true↔0≤x∧x<1000000000:=by unfold Av;simp
theorem jF {neg:Bool} {l:List Int} (h:sG neg l=true):gu l∧trim l∧nd (vb l).toNat=l∧(fm neg (vb l)).natAbs=(vb l).toNat∧decide (fm neg (vb l)<0)=neg∧(l= []→neg=false):=by
 unfold sG at h
 rw [Bool.and_eq_true] at h
 have hd:gu l:=fun x hx=>(oB x).1 (List.all_eq_true.1 h.1 x hx)
 have ht:trim l:=fun hne=>by
  have:=h.2
  rw [if_neg (fun h0=>hne (List.length_eq_zero_iff.1 h0))] at this
  simpa using this
 have hn:=EE hd ht
 have hv:=hJ hd
 have h0:l= []→neg=false:=fun hl=>by
  have:=h.2
  rw [hl] at this
  simpa using this
 refine ⟨hd,ht,hn,ik neg hv,?_,h0⟩
 by_cases hl:l= []
 ·rw [h0 hl,hl];rfl
 ·refine vc neg ?_
  rcases (show vb l=0∨0<vb l by omega) with h1|h1
  ·rw [h1] at hn;exact absurd (hn.symm.trans cG) hl
  ·exact h1
theorem RV.cv {neg:Bool} {l:List Int} {r:V} (h:RV neg l r) (hi:sG neg l=true):CV (fm neg (vb l)) r:=by
 obtain ⟨d,rfl,hd⟩:=h
 obtain ⟨_,_,h1,h2,h3,_⟩:=jF hi
 exact ⟨d,by rw [h3],by rw [h2,h1];exact hd⟩
theorem yH (x:Int):sG (decide (x<0)) (nd x.natAbs)=true:=by
 unfold sG
 rw [Bool.and_eq_true]
 constructor
 ·rw [List.all_eq_true];exact fun y hy=>(oB y).2 (cJ _ y hy)
 ·split
  ·rename_i h
   have:=I6 (List.length_eq_zero_iff.1 h)
   have hx: ¬x<0:=by omega
   simp [hx]
  ·rename_i h
   exact decide_eq_true (uS _ fun h0=>h (by rw [h0];rfl))
theorem JO {neg:Bool} {l:List Int} {a:V} (ha:RV neg l a) (hl:l.length≤1000000000):jK cx 160 [a] (.bool (sG neg l)):=fun s hs=>
 (NP (aE (by decide))).run (l.length+1) (by
  obtain ⟨d,rfl,hd⟩:=ha
  show Gw cx _ (.agg [.bool neg,d]) s=_
  unfold Gw
  generalize hF:l.length+1=F
  obtain ⟨s1,e1,b1,l1,k1,n1⟩:=ca [.bool neg,d] 43 (Loc.refl hs)
  simp (disch:=omega) only [jE,dt,e1,st]
  refine aP (fun r=>r=_) (fun k vs t=> ∃i:Nat,vs= [.int .i64 i,.ptr s.n 0]∧s1=t∧i+k=l.length∧(l.take i).all Av=true) ?_ _ l.length _ _ ⟨0,rfl,rfl,by omega,rfl⟩ (by omega)
  rintro ih k _ _ ⟨i,rfl,rfl,hk,gh⟩ eZ
  by_cases hi:i<l.length
  ·have bad:Av (l.getD i 0)=false→sG neg l=false:=fun h=>by
    unfold sG
    rw [Bool.and_eq_false_iff]
    left
    rw [List.all_eq_false]
    exact ⟨_,dh l 0 hi,by rw [h];exact Bool.false_ne_true⟩
   by_cases h1:l.getD i 0<0
   ·simp (disch:=omega) only [jE,st,si,cS,b1.r2,hd.len,hd.ix,dW,Int.toNat_natCast]
    rw [aO rfl (by omega) l1.fx,bad (Bool.eq_false_iff.2 fun h=>by have:=(oB _).1 h;omega)]
   by_cases h2:1000000000≤l.getD i 0
   ·simp (disch:=omega) only [jE,st,si,cS,b1.r2,hd.len,hd.ix,dW,Int.toNat_natCast]
    rw [aO rfl (by omega) l1.fx,bad (Bool.eq_false_iff.2 fun h=>by have:=(oB _).1 h;omega)]
   simp (disch:=omega) only [jE,st,si,cS,b1.r2,hd.len,hd.ix,dW,Int.toNat_natCast,br]
   refine eZ (k - 1) _ _ (by omega) ⟨i+1,rfl,rfl,by omega,?_⟩
   have:l.take (i+1)=l.take i++ [l.getD i 0]:=by rw [List.take_add_one];simp [hi]
   rw [this,List.all_append,gh,List.all_cons,List.all_nil,(oB _).2 ⟨by omega,by omega⟩];rfl
  ·rw [List.take_of_length_le (by omega)] at gh
   by_cases h0:l.length=0
   ·simp (disch:=omega) only [jE,st,si,cS,b1.r2,hd.len,ea]
    rw [aO rfl (by omega) l1.fx]
    unfold sG
    rw [gh,if_pos h0];rfl
   ·simp (disch:=omega) only [jE,st,si,cS,b1.r2,hd.len,hd.ix,dW,br,show ((l.length:Int) - 1).toNat=l.length - 1 by omega]
    rw [aO rfl (by omega) l1.fx]
    unfold sG
    rw [gh,if_neg h0];rfl) (by omega)
def iF (x:Int):List Int:=jb x 0::nd x.natAbs
theorem gT (x:Int): ∀y,y∈iF x→fk y:=fun y hy=>by
 rcases List.mem_cons.1 hy with rfl|hy
 ·unfold jb fk;(repeat' split)<;>omega
 ·exact LA _ y hy
theorem Ow.tb {s₀ s:S} {e z l:Nat} {v:V} {cs:List V} (h:Ow s₀ s e z v l cs):ag.aF v=aA v:=by cases h<;>rfl
theorem OR {x:Int} {a:V} (ha:CV x a) (hl:(nd x.natAbs).length≤900000):xM cx 102 [a] 5 1 (eC (iF x)).length (Bs (eC (iF x))):=fun s hs=>
 (UO (aE (by decide))).runN 0 (by
  have lj:=ha
  obtain ⟨d,rfl,hd⟩:=ha
  show fE s 5 1 _ _ (Jm cx 0 (.agg [.bool (decide (x<0)),d]) s)
  unfold Jm
  obtain ⟨s1,e1,b1,l1,k1,n1⟩:=ca [.bool (decide (x<0)),d] 43 (Loc.refl hs)
  have f1:=jz (OX lj (by omega)) (cU lj.az) l1.wm
  obtain ⟨v1,t1,h1,f2,o1,m1,j1,g1⟩:=vR (e:=3) (z:=1) (len:=1) (r:=some []) l1 (ri (z:= .int .i64 0) (d:= .int .i64 (jb x 0)) rfl) rfl
  have eX:=b1.kp j1 (by simp)
  obtain ⟨v2,t2,w2,h2,f3,o2,m2,j2,g2,FL⟩:=Ii (te:=iV) (r:=some ([v1,d].flatMap ag.aF)) (w:=some (ag.aF v1)) m1 o1 hd (dZ _ _) rfl (by decide) (by rw [pO];omega)
  have Ni:Ow s t2 3 1 v2 (iF x).length (dk (iF x)):=by
   unfold iF
   rw [List.length_cons,Nat.add_comm];exact o2
  obtain ⟨x',sx,uE,hx'⟩:=B9 [] [] Ni (aS _ _) rfl rfl
  obtain ⟨v3,t3,h3,f4,o3,m3,j3,g3,_⟩:=lN m2 uE (fun b hb=>(Ni.lo hb).1) (Wn hx' (gT x) (by unfold iF;rw [List.length_cons];omega) _) (cY _)
  simp only [List.nil_append] at f4
  simp (disch:=omega) only [jN,dt,e1,st,sf,cS,b1.r2,f1,f2,eX.r2,f3,f4]
  refine wN (Iy (aA v2) 8 rfl ?_) (eP hs m3 o3 (aS _ _))
  refine .c0 (.c0 (.c0 (.c0 (.c0 (.cw ?_ (by decide) (.cz (fun c h=>h) (.c0 trivial)))))))
  rcases FL with h|⟨h,h'⟩
  ·exact .inl h
  ·refine .inr ⟨_,h,fun b hb qj=> ?_⟩
   rw [o1.tb] at hb
   have:=(o1.lo hb).2
   have:=h' b qj
   omega) (by omega)
def dI (b:List Int):Bool×List Int×Int×Int:=
 if (gL b).2.2≠0 then (false, [],0,(gL b).2.2) else
 if (gL b).1.length=0 then (false, [],0,2) else
 if sG (decide ((gL b).1.getD 0 0= -1)) ((gL b).1.drop 1)=false then (false, [],0,2) else
 if jb (fm (decide ((gL b).1.getD 0 0= -1)) (vb ((gL b).1.drop 1))) 0≠(gL b).1.getD 0 0 then (false, [],0,2) else
 (decide ((gL b).1.getD 0 0= -1),(gL b).1.drop 1,(gL b).2.1,0)
def D4 (r:Bool×List Int×Int×Int) (v:V):Prop:= ∃a,v= .dQ [a,.int .i64 r.2.2.1,.int .i64 r.2.2.2]∧RV r.1 r.2.1 a
theorem p7 {s₀ s:S} {b t z:Nat} {bL:Bool} {l:List V} {n e:Int} (h:dX s₀ s b l t bL) (hl:Loc s₀ s) (h0:s₀.wm=s₀.n) (hz:l.length=z) (ha:l.all atom=true):aC s₀ s [aD z s (.ptr b 0),some (.int .i64 n),some (.int .i64 e)]=some (.dQ [.agg l,.int .i64 n,.int .i64 e],s₀):=by
 rw [eV h.rd (show 0+z≤l.length by omega),List.drop_zero,List.take_of_length_le (by omega)]
 exact eu (by show (l.all atom && (true && (true && true)))=true;rw [ha];rfl) (by omega) hl.fx
theorem RV.zero:RV false [] (.agg [.bool false,.ah]):=⟨.ah,rfl,Is.nil _⟩
theorem DC: ∀(k:Nat) {c:List Int},bytes c→ ∀x,x∈(gR k c).1→fk x
 |0,_,_,x,hx=>by cases hx
 |k+1,c,hc,x,hx=>by
  unfold gR at hx
  split at hx
  ·cases hx
  ·rename_i h
   split at hx
   ·cases hx
   ·rcases List.mem_cons.1 hx with rfl|hx
    ·exact (kU hc (by omega)).1
    ·exact DC k (bP _ hc) x hx
theorem uw {b:List Int} (hb:bytes b): ∀x,x∈(gL b).1→fk x:=by
 intro x hx
 unfold gL at hx
 split at hx
 ·cases hx
 ·unfold gF at hx
  split at hx
  ·cases hx
  ·rw [List.nil_append] at hx
   exact DC _ (bP _ hb) x hx
theorem ux: ∀(k:Nat) {c:List Int},bytes c→(gR k c).1.length≤c.length∧0≤(gR k c).2.1∧(gR k c).2.1≤c.length
 |0,c,_=>by simp [gR]
 |k+1,c,hc=>by
  unfold gR
  split
  ·simp
  ·rename_i h
   split
   ·simp
   ·have h1:=kU hc (by omega)
    have h2:=ux k (bP (gI c).2.1.toNat hc)
    rw [List.length_drop] at h2
    simp only [List.length_cons]
    omega
theorem kC {b:List Int} (hb:bytes b):(gL b).1.length≤b.length∧0≤(gL b).2.1∧(gL b).2.1≤b.length:=by
 unfold gL
 split
 ·simp
 ·rename_i h
  obtain ⟨h1,h2,h3,h4⟩:=zU hb (by omega)
  have h5:=kU hb h2
  have h6:=ux (gC b).1.toNat (bP (gC b).2.1.toNat hb)
  rw [List.length_drop] at h6
  unfold gF
  split
  ·simp
  ·rw [List.nil_append,h1]
   rw [h1] at h6
   simp only []
   omega
theorem OU {v:V} {b:List Int} (hv:Is .u8 v b) (hb:bytes b) (hlen:b.length≤1000000):eL cx 110 [v] (D4 (dI b)):=fun s hs=>
 (US (aE (by decide))).fD 0 (by
  show bW s _ (Jq cx 0 v s)
  unfold Jq
  obtain ⟨s1,e1,b1,l1,k1,n1⟩:=ca [.bool false,.ah] 43 (Loc.refl hs)
  obtain ⟨r3,⟨w,rfl,hw⟩,e2⟩:=aU (dr:=false) (st:=false) (Wp hv hb hlen) (cU hv.az) l1.wm
  have hL:=kC hb
  have hr:=uw hb
  have bad: ∀(t:S) (n e:Int),Loc s t→dX s t s.n [.bool false,.ah] 43 false→ ∃t',aq t (aB 2 (.ptr s.n 0) (.agg [.bool false,.ah]) (aw t))=some (.bad,t')∧aC s t' [aD 2 t' (.ptr s.n 0),some (.int .i64 n),some (.int .i64 e)]=some (.dQ [.agg [.bool false,.ah],.int .i64 n,.int .i64 e],s):=by
   intro t n e hlt DJ
   obtain ⟨t',f1,c1,m1,_,_⟩:=DJ.put (l:= [.bool false,.ah]) (z:=2) hlt rfl rfl rfl
   exact ⟨t',f1,p7 c1 m1 hs rfl rfl⟩
  unfold dI
  generalize gL b=r at*
  by_cases h1:r.2.2=0
  ·rw [if_neg (by omega)]
   by_cases h2:r.1.length=0
   ·rw [if_pos h2]
    obtain ⟨t',f1,f2⟩:=bad s1 0 2 l1 b1
    simp (disch:=omega) only [jU,st,si,e1,e2,h1,ne_eq,not_true,hw.len,eB,f1]
    exact ⟨_,⟨_,rfl,RV.zero⟩,f2⟩
   ·rw [if_neg h2]
    obtain ⟨w1,BC,lX⟩:=hw.BQ (q:= .i64) (lo:=1) (by omega) (by omega)
    rw [show (1:Int).toNat=1 from rfl] at lX
    have hx:=hr _ (dh r.1 0 (show 0<r.1.length by omega))
    have nD:(r.1.drop 1).length≤1000000:=by rw [List.length_drop];omega
    generalize WV:r.1.getD 0 0=x0 at hx ⊢
    generalize hLd:r.1.drop 1=ds at lX nD ⊢
    have DS:aI [.bool false,.ah] [(0,1,.bool (decide (x0= -1))),(1,1,w1)]=some (.agg [.bool (decide (x0= -1)),w1]):=wj rfl (Fs.aR lX)
    obtain ⟨s2,e3,b2,l2,k2,n2⟩:=cO (cs:= [.bool false,.ah]) (l:= [.bool (decide (x0= -1)),w1]) (t:=43) (z:=2) l1 rfl rfl (RV.atoms lX).1
    have Bz:RV (decide (x0= -1)) ds (.agg [.bool (decide (x0= -1)),w1]):=⟨w1,rfl,lX⟩
    have e4:=bO (dr:=false) (st:=false) (JO Bz (by omega)) (cU Bz.az) l2.wm
    have eX:=b1.kp k2 (by simp)
    obtain ⟨t',f1,f2⟩:=bad s2 0 2 l2 eX
    have vF: ∀t:S,aM t (.dS (List.drop 0 (List.map (V.int .i64) r.1)))=some (.int .i64 x0):=fun t=>by
     rw [dW .i64 r.1 t (by omega),WV]
    simp (disch:=omega) only [jU,st,si,e1,e2,h1,ne_eq,not_true,hw.len,hw.ix,vF,BC,DS]
    rw [e3]
    simp (disch:=omega) only [jU,st,b2.r2,e4,ea]
    cases T7:sG (decide (x0= -1)) ds with
    |false=>
     rw [if_pos rfl]
     simp (disch:=omega) only [jU,st,Bool.not_false,eB,f1]
     exact ⟨_,⟨_,rfl,RV.zero⟩,f2⟩
    |true=>
     rw [if_neg (by simp)]
     have FQ:=Bz.cv T7
     obtain ⟨_,_,g1,g2,_,_⟩:=jF T7
     have e5:=bO (dr:=true) (st:=false) (OX FQ (by rw [g2,g1];omega)) (cU FQ.az) l2.wm
     by_cases h3:jb (fm (decide (x0= -1)) (vb ds)) 0=x0
     ·rw [if_neg (by simp [h3])]
      obtain ⟨t2,f3,c3,m3,_,_⟩:=eX.put (l:= [.bool (decide (x0= -1)),w1]) (z:=2) l2 rfl rfl (RV.atoms lX).1
      simp (disch:=omega) only [jU,st,si,Bool.not_true,b2.r2,e5,hw.ix,vF,ne_eq,h3,not_true,f3]
      exact ⟨_,⟨_,rfl,Bz⟩,p7 c3 m3 hs rfl (RV.atoms lX).2⟩
     ·rw [if_pos h3]
      simp (disch:=first|exact h3|omega) only [jU,st,si,Bool.not_true,b2.r2,e5,hw.ix,vF,eB,f1]
      exact ⟨_,⟨_,rfl,RV.zero⟩,f2⟩
  ·rw [if_pos h1]
   obtain ⟨t',f1,f2⟩:=bad s1 0 r.2.2 l1 b1
   simp (disch:=exact h1) only [jU,st,si,e1,e2,eB,f1]
   exact ⟨_,⟨_,rfl,RV.zero⟩,f2⟩) (by omega)
def RR (np:Bool) (lp:List Int) (nq:Bool) (lq:List Int) (r:V):Prop:= ∃d e,r= .agg [.bool np,d,.bool nq,e]∧Is .i64 d lp∧Is .i64 e lq
theorem RR.atoms {np nq:Bool} {lp lq:List Int} {d e:V} (hd:Is .i64 d lp) (he:Is .i64 e lq):([.bool np,d,.bool nq,e]:List V).all aR=true∧([.bool np,d,.bool nq,e]:List V).all atom=true:=by
 constructor
 ·show (aR (.bool np) && (aR d && (aR (.bool nq) && (aR e && true))))=true;rw [Fs.aR hd,Fs.aR he];rfl
 ·show (atom (.bool np) && (atom d && (atom (.bool nq) && (atom e && true))))=true;rw [Is.atom hd,Is.atom he];rfl
theorem RR.az {np nq:Bool} {lp lq:List Int} {r:V} (h:RR np lp nq lq r):X.az r=true:=by
 obtain ⟨d,e,rfl,hd,he⟩:=h;exact (RR.atoms hd he).2
def qd (q:Nat):List Int:=if q=1 then [] else nd q
def VR (p:Int) (q:Nat):Prop:=0<q∧Nat.gcd p.natAbs q=1
def CR (p:Int) (q:Nat) (r:V):Prop:=RR (decide (p<0)) (nd p.natAbs) false (qd q) r
theorem CR.az {p:Int} {q:Nat} {r:V} (h:CR p q r):X.az r=true:=RR.az h
theorem rV (q:Nat):(qd q).length≤(nd q).length:=by unfold qd;split<;>simp
theorem EZ {q:Nat} (h:0<q):(qd q).length=0↔q=1:=by
 unfold qd
 split
 ·rename_i h1;simp [h1]
 ·rename_i h1
  constructor
  ·intro h2;have:=I6 (List.length_eq_zero_iff.1 h2);omega
  ·intro h2;exact absurd h2 h1
theorem Iq {p:Int} {q:Nat} {a:V} (ha:CR p q a) (hq:0<q):eL cx 69 [a] (CV (q:Int)):=fun s hs=>
 (E69 (aE (by decide))).fD 0 (by
  obtain ⟨d,e,rfl,hd,he⟩:=ha
  show bW s _ (Tp cx 0 (.agg [.bool (decide (p<0)),d,.bool false,e]) s)
  unfold Tp
  obtain ⟨s1,e1,b1,l1,k1,n1⟩:=ca [.bool (decide (p<0)),d,.bool false,e] 45 (Loc.refl hs)
  obtain ⟨s2,e2,b2,l2,k2,n2⟩:=ca [.bool false,.ah] 43 l1
  have eX:=b1.kp k2 (by simp)
  have hf:aJ 1 (.ptr s.n 2)=some (.ptr s.n 3):=rfl
  simp (disch:=omega) only [jU,st,si,dt,e1,e2,cS,hf,eX.r4,he.len]
  by_cases h1:q=1
  ·have hz:=(EZ hq).2 h1
   obtain ⟨c,hc,e3⟩:=aU (dr:=false) (st:=true) (JQ 1 (by unfold fk;omega)) (cU rfl) l2.wm
   obtain ⟨dc,rfl,iU⟩:=hc
   simp (disch:=omega) only [jU,st,e3]
   rw [h1]
   exact ⟨_,⟨dc,rfl,iU⟩,gz b2 l2 hs rfl rfl (nS iU).1⟩
  ·have hz: ¬(qd q).length=0:=fun h=>h1 ((EZ hq).1 h)
   have Uh:qd q=nd q:=by unfold qd;rw [if_neg h1]
   rw [Uh] at he
   simp (disch:=omega) only [jU,st,cS,eX.r4]
   exact ⟨_,CV.kI he,gz b2 l2 hs rfl rfl (ff he).2⟩) (by omega)
def sR (neg:Bool) (l:List Int):Bool:= !neg && (decide (l.length=1) && decide (l.getD 0 0=1))
theorem JL {neg:Bool} {l:List Int} {a:V} (ha:RV neg l a) (hl:l.length≤1000000000):jK cx 115 [a] (.bool (sR neg l)):=fun s hs=>
 (NB (aE (by decide))).run 0 (by
  obtain ⟨d,rfl,hd⟩:=ha
  show Gh cx 0 (.agg [.bool neg,d]) s=_
  unfold Gh
  obtain ⟨s1,e1,b1,l1,k1,n1⟩:=ca [.bool neg,d] 43 (Loc.refl hs)
  unfold sR
  cases neg with
  |true=>
   simp (disch:=omega) only [jE,st,si,dt,e1,cS,b1.r2]
   exact aO rfl (by omega) l1.fx
  |false=>
   by_cases h1:l.length=1
   ·simp (disch:=omega) only [jE,st,si,dt,e1,cS,b1.r2,hd.len,h1,ne_eq,not_true,hd.ix,dW,Int.toNat_zero]
    rw [aO rfl (by omega) l1.fx]
    simp
   ·simp (disch:=omega) only [jE,st,si,dt,e1,cS,b1.r2,hd.len]
    rw [aO rfl (by omega) l1.fx]
    simp [h1]) (by omega)
theorem HW (x:Int):sR (decide (x<0)) (nd x.natAbs)=decide (x=1):=by
 unfold sR
 by_cases h:x=1
 ·subst h
  rw [show (1:Int).natAbs=1 from rfl,jk (by omega),show 1 / 1000000000=0 from rfl,cG];rfl
 ·rw [decide_eq_false h,Bool.and_eq_false_iff,Bool.and_eq_false_iff]
  by_cases hx:x<0
  ·left;simp [hx]
  ·right
   by_cases h1:(nd x.natAbs).length=1
   ·right
    have hv:=cn x.natAbs
    rw [decide_eq_false_iff_not]
    intro h2
    match hn:nd x.natAbs,h1 with
    | [y],_=>
     rw [hn] at hv h2
     simp [vb] at hv h2
     omega
   ·left;simp [h1]
theorem oC (q:Nat):sR false (nd q)=decide (q=1):=by
 have:=HW (q:Int)
 rw [Int.natAbs_natCast,show decide ((q:Int)<0)=false from decide_eq_false (by omega)] at this
 rw [this]
 exact decide_eq_decide.2 (by omega)
end Go.Vm.X
end
