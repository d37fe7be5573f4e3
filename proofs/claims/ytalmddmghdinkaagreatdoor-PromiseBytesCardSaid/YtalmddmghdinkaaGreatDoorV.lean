/-
  A part of the proof of PromiseBytes: lemmas, in short letters, printed by a program out of the longer texts; conditions: those that each lemma names.
-/
import Derived.Test.YtalmddmghdinkaaGreatDoorU
set_option linter.all false
set_option linter.deprecated false
noncomputable section
namespace Go.Vm.X
open Go Go.Vm Go.Proofs.bt
theorem jnR {s:S} {P:V→Prop} {k:List V→S→bB} {c:(List V→S→bB)→bB} (I:List V→S→Prop) (hk: ∀vs t,I vs t→bW s P (k vs t)) (hc: ∀j:List V→S→bB,(∀vs t,I vs t→bW s P (j vs t))→bW s P (c j)):bW s P (jn k c):=hc k hk
theorem slB {b l c:Nat} {n:Nat} (h:n≤c):gE 1 (.sl b 0 l c 1) none (some (.int .i64 n)) none=some (.sl b 0 n c 1):=by
 have h1:bound (some (.int .i64 (n:Int))) c l=some n:=by rw [eM (by omega) (by omega),Int.toNat_natCast]
 have h3:Nat.ble n c=true:=by rw [Nat.ble_eq];exact h
 unfold gE
 simp only [show bound none c c=some c from rfl,h1,show bound none n 0=some 0 from rfl,h3]
 rfl
def LD (X Y:Nat) (r:V):Prop:= ∃q l r' lr,r= .dQ [q,r']∧Is .i64 q l∧l.length≤1000001∧Is .i64 r' lr∧gu lr∧vb lr=((X % Y:Nat):Int)∧lr.length≤1000000
set_option maxHeartbeats 4000000 in
theorem We {v w:V} {X Y:Nat} (hv:Is .i64 v (nd X)) (hw:Is .i64 w (nd Y)) (hn:2≤(nd Y).length) (hle:(nd Y).length≤(nd X).length) (hl:(nd X).length≤1000000):eL cx 219 [v,w] (LD X Y):=fun s hs=>
 (Vt (aE (by decide))).fD 1000000010 (by
  show bW s _ (Ju cx _ v w s)
  unfold Ju
  generalize hF:1000000010=F
  have QP:=cn X
  have M8:=cn Y
  have P6:=cJ X
  have P7:=cJ Y
  have htr:=uS Y (List.ne_nil_of_length_pos (by omega))
  generalize hA:nd X=A at*
  generalize hB:nd Y=Bd at*
  have uA:=dF P7 (Bd.length - 1)
  have hT0:((Bd.length:Int) - 1).toNat=Bd.length - 1:=by omega
  obtain ⟨wP,Ul,Ch⟩:=Ev (b:=Bd.getD (Bd.length - 1) 0) (by omega) (by omega)
  have acq:1000000000 / (Bd.getD (Bd.length - 1) 0+1)≤500000000:=by
   have:=Int.ediv_lt_of_lt_mul (a:=1000000000) (b:=500000001) (c:=Bd.getD (Bd.length - 1) 0+1) (by omega) (by omega)
   omega
  simp (disch:=omega) only [jU,st,si,sf,hw.len,br,hw.ix,dW,hT0]
  have W9:(Y:Int)<bp (Bd.length - 1)*(Bd.getD (Bd.length - 1) 0+1):=by
   have h1:=js Bd 0 (Bd.length - 1) (by omega)
   have h2:=(nu P7 0 (Bd.length - 1)).2
   rw [Nat.zero_add,eJ Bd (i:=Bd.length - 1) (by omega),List.drop_eq_nil_of_le (show Bd.length≤Bd.length - 1+1 by omega),show vb []=0 from rfl,Int.mul_zero,Int.add_zero,List.drop_zero,M8] at h1
   rw [List.drop_zero] at h2
   rw [Int.mul_add,Int.mul_one];omega
  have abX:bp (Bd.length - 1)*1≤Y:=by
   have h1:=js Bd 0 (Bd.length - 1) (by omega)
   have h2:=(nu P7 0 (Bd.length - 1)).1
   rw [Nat.zero_add,eJ Bd (i:=Bd.length - 1) (by omega),List.drop_eq_nil_of_le (show Bd.length≤Bd.length - 1+1 by omega),show vb []=0 from rfl,Int.mul_zero,Int.add_zero,List.drop_zero,M8] at h1
   rw [List.drop_zero] at h2
   have:bp (Bd.length - 1)*1≤bp (Bd.length - 1)*Bd.getD (Bd.length - 1) 0:=Int.mul_le_mul_of_nonneg_left (by omega) (by have:=fb (Bd.length - 1);omega)
   omega
  have W8:(X:Int)<bp A.length:=by rw [←QP];exact iS P6
  generalize Lg:1000000000 / (Bd.getD (Bd.length - 1) 0+1)=sc at*
  obtain ⟨LU,⟨pU1,pU2,pU3⟩,u,t1,h1,f1,o1,m1,j1,g1⟩:=qq (Loc.refl hs) (by simp only [List.all_cons,List.all_nil,Fs.cm hv];rfl) (Pc (k:=sc) hv P6 (by omega) (by omega) (by omega))
  obtain ⟨LV,⟨FX,Nj,pV3⟩,vv,t2,h2,f2,o2,m2,j2,g2⟩:=qq m1 (by simp only [List.all_cons,List.all_nil,Fs.cm hw];rfl) (Pc (k:=sc) hw P7 (by omega) (by omega) (by omega))
  have FW:=o1.kp j2 (fun _ _=>by simp)
  obtain ⟨bu,rfl,_⟩:=o1.pt .i64 (i:=0) (by omega) (by omega)
  obtain ⟨bv,rfl,_⟩:=o2.pt .i64 (i:=0) (by omega) (by omega)
  have hbu:=g1 bu (by simp [aA])
  have ab0:=(o1.lo (b:=bu) (by simp [aA])).2
  have Xs:=g2 bv (by simp [aA])
  have ab1:=(o2.lo (b:=bv) (by simp [aA])).2
  have uI:gE 1 (.sl bv 0 LV.length LV.length 1) none (some (.int .i64 (Bd.length:Int))) none=some (.sl bv 0 Bd.length LV.length 1):=slB (by omega)
  simp (disch:=omega) only [f1,sf,f2,hw.len,uI]
  refine wU (J0 (by repeat' first|exact trivial|apply Qs.c0)) ?_
  obtain ⟨qv,t3,e3,o3,l3,k3,bo⟩:=Re (T:=types) (t:=22) (ti:=BV) (te:=iV) (x:= .int .i64 0) (n:=(A.length:Int) - Bd.length+1) m2 rfl rfl rfl rfl rfl (by omega) (by rw [show iV.bytes=8 from rfl];omega) (by omega)
  obtain ⟨bq,rfl,_⟩:=o3.pt .i64 (i:=0) (by omega) (by omega)
  have Xp:=bo bq (by simp [aA])
  obtain ⟨lq,hlq⟩: ∃n:Nat,n=A.length - Bd.length+1:=⟨_,rfl⟩
  rw [show ((A.length:Int) - Bd.length+1).toNat=lq by omega] at o3 e3
  rw [←lE] at o3
  simp (disch:=omega) only [st,si,hw.len,hv.len,br,e3]
  have hLS:LS s t3 bu bv bq LU LV (List.replicate lq 0):=by
   refine ⟨l3,?_,?_,?_,by omega,by omega,by omega⟩
   ·have:=FW.kp k3 (fun _ _=>by simp)
    cases this with|aF _ _ _ bL h _=>exact ⟨bL,h⟩
   ·have:=o2.kp k3 (fun _ _=>by simp)
    cases this with|aF _ _ _ bL h _=>exact ⟨bL,h⟩
   ·cases o3 with|aF _ _ _ bL h _=>exact ⟨bL,h⟩
  rw [QP] at pU2
  rw [M8] at Nj
  generalize hnl:Bd.length=n at*
  have zZ:vb (LV.drop n)=0:=by
   have h1:=js LV 0 n (by omega)
   have h2:=(nu FX 0 n).1
   rw [Nat.zero_add,List.drop_zero,Nj] at h1
   rw [List.drop_zero] at h2
   have h3:=hJ (lP n FX)
   have h4:(Y:Int)*sc<bp n:=by
    have h5:(Y:Int)*sc<bp (n - 1)*(Bd.getD (n - 1) 0+1)*sc:=Int.mul_lt_mul_of_pos_right W9 (by omega)
    have h6:bp (n - 1)*((Bd.getD (n - 1) 0+1)*sc)≤bp (n - 1)*1000000000:=Int.mul_le_mul_of_nonneg_left (by rw [Int.mul_comm];exact Ch) (by have:=fb (n - 1);omega)
    have h7:=qW (n - 1)
    rw [show n - 1+1=n by omega] at h7
    rw [Int.mul_assoc] at h5
    omega
   rcases (show vb (LV.drop n)=0∨1≤vb (LV.drop n) by omega) with h|h
   ·exact h
   ·have:bp n*1≤bp n*vb (LV.drop n):=Int.mul_le_mul_of_nonneg_left h (by have:=fb n;omega)
    omega
  have yx:vb (LV.take n)=vb LV:=by
   have:=iO LV n (by omega)
   rw [zZ,Int.mul_zero,Int.add_zero] at this
   exact this.symm
  have abW:vb LV<bp n:=by
   rw [←yx]
   have:=(nu FX 0 n).2
   rwa [List.drop_zero] at this
  have PJ:=aa3 hn (L:=LV) (by omega) zZ
  have acs:=dF FX (n - 1)
  have HJ:=dF FX (n - 2)
  have hvl:=nu FX 0 (n - 2)
  have Cg:=fb (n - 2)
  have MY:bp (n - 1)=1000000000*bp (n - 2):=by
   have:=qW (n - 2)
   rwa [show n - 2+1=n - 1 by omega] at this
  have Yk:500000000≤LV.getD (n - 1) 0:=by
   have h1:bp (n - 1)*Bd.getD (n - 1) 0≤Y:=by
    have h1:=js Bd 0 (n - 1) (by omega)
    have h2:=(nu P7 0 (n - 1)).1
    rw [Nat.zero_add,eJ Bd (i:=n - 1) (by omega),List.drop_eq_nil_of_le (show Bd.length≤n - 1+1 by omega),show vb []=0 from rfl,Int.mul_zero,Int.add_zero,List.drop_zero,M8] at h1
    rw [List.drop_zero] at h2
    omega
   have h2:bp (n - 1)*Bd.getD (n - 1) 0*sc≤Y*sc:=Int.mul_le_mul_of_nonneg_right h1 (by omega)
   have h3:bp (n - 1)*500000000≤bp (n - 1)*(Bd.getD (n - 1) 0*sc):=Int.mul_le_mul_of_nonneg_left (by rw [Int.mul_comm];exact wP) (by have:=fb (n - 1);omega)
   rw [Int.mul_assoc] at h2
   rcases (show 500000000≤LV.getD (n - 1) 0∨LV.getD (n - 1) 0+1≤500000000 by omega) with h|h
   ·exact h
   ·have h4:bp (n - 1)*(LV.getD (n - 1) 0+1)≤bp (n - 1)*500000000:=Int.mul_le_mul_of_nonneg_left h (by have:=fb (n - 1);omega)
    have h5:=js LV 0 (n - 1) (by omega)
    have h6:=(nu FX 0 (n - 1)).2
    rw [Nat.zero_add,eJ LV (i:=n - 1) (by omega),show n - 1+1=n by omega,zZ,Int.mul_zero,Int.add_zero,List.drop_zero,Nj] at h5
    rw [List.drop_zero] at h6
    rw [Int.mul_add,Int.mul_one] at h4
    omega
  generalize hVV:vb LV=VV at*
  have W5:0<VV:=by rw [Nj];exact Int.mul_pos (by have:=fb (n - 1);omega) (by omega)
  generalize HI:LV.getD (n - 1) 0=v1 at*
  generalize Ln:LV.getD (n - 2) 0=v2 at*
  have hBV:1000000000*bp (n - 2)≤VV:=by
   rw [PJ]
   have:bp (n - 2)*1000000000≤bp (n - 2)*(v1*1000000000+v2):=Int.mul_le_mul_of_nonneg_left (by omega) (by omega)
   omega
  have hYV:bp (n - 1)*sc≤VV:=by
   rw [Nj]
   exact Int.mul_le_mul_of_nonneg_right (by omega) (by omega)
  have hW0:vb (LU.drop (A.length - n+1))<VV:=by
   have h1:=iO LU (A.length - n+1) (by omega)
   have h2:=hJ (gQ (A.length - n+1) pU1)
   have h3:(X:Int)*sc<bp A.length*sc:=Int.mul_lt_mul_of_pos_right W8 (by omega)
   have h4:=lL (A.length - n+1) (n - 1)
   rw [show A.length - n+1+(n - 1)=A.length by omega] at h4
   rw [h4,Int.mul_assoc] at h3
   rcases (show vb (LU.drop (A.length - n+1))<VV∨VV≤vb (LU.drop (A.length - n+1)) by omega) with h|h
   ·exact h
   ·have:bp (A.length - n+1)*(bp (n - 1)*sc)≤bp (A.length - n+1)*vb (LU.drop (A.length - n+1)):=Int.mul_le_mul_of_nonneg_left (by omega) (by have:=fb (A.length - n+1);omega)
    omega
  have Hj:((n:Int) - 1).toNat=n - 1:=by omega
  have Kl:((n:Int) - 2).toNat=n - 2:=by omega
  refine aP (bW s _) (fun k vs t=> ∃U Q:List Int,vs= [.int .i64 ((k:Int) - 1),.sl bv 0 n LV.length 1,.sl bu 0 LU.length LU.length 1,.int .i64 n,.int .i64 sc,.sl bq 0 lq lq 1]∧LS s t bu bv bq U LV Q∧gu U∧U.length=LU.length∧Q.length=lq∧
   VV ∣ vb U - X*sc∧vb (U.drop (k+n))=0∧vb (U.drop k)<VV∧k+n≤LU.length) ?_ _ (A.length - n+1) _ _
   ⟨LU,List.replicate lq 0,by rw [show (((A.length - n+1:Nat):Int) - 1)=(A.length:Int) - n by omega],hLS,pU1,rfl,List.length_replicate,by rw [pU2,Int.sub_self];exact Int.dvd_zero _,by rw [List.drop_eq_nil_of_le (by omega)];rfl,hW0,by omega⟩ (by omega)
  rintro ih k _ t ⟨U,Q,rfl,hL,DL,hUl,WX,hdv,IY,hWU,hkn⟩ eZ
  by_cases hk:k=0
  ·subst hk
   have Lj:gE 1 (.sl bu 0 LU.length LU.length 1) none (some (.int .i64 (n:Int))) none=some (.sl bu 0 n LU.length 1):=slB (by omega)
   simp (disch:=omega) only [jU,st,si,Lj]
   obtain ⟨slu,hu⟩:=hL.u
   have hlen:(U.take n).length=n:=by rw [List.length_take];omega
   have WU:Is .i64 (.iL (dk (U.take n)) n) (U.take n):=by
    have:=Is.mk .i64 (U.take n)
    rwa [hlen] at this
   have hFz:bK (aw t) [.sl bu 0 n LU.length 1,.int .i64 sc] [.iL (dk (U.take n)) n,.int .i64 sc] ([bu]++ []) (mark [bu] (aw t)):=
    .cons _ _ _ _ _ _ _ _ (.one _ _ _ (.sl bu 0 n LU.length 1 (dk U) _ 3 slu true hu.get (by omega) (by simp;omega) (by rw [List.drop_zero,Nat.mul_one];exact List.map_take.symm) (aS _ _))) (bK.ats _ rfl)
   obtain ⟨r,⟨q',l,rfl,rB,nD,hvl,Ua⟩,t4,e4,l4,k4,n4,_⟩:=lM (dr:=false) (st:=false) hL.l hFz (fun b hb=>by simp only [List.append_nil,List.mem_singleton] at hb;subst hb;exact hu.lo) (fun h=>by cases h) (Pb WU (gQ n DL) (show 0<sc by omega) (by omega) (by rw [hlen];omega))
   simp (disch:=omega) only [jU,st,e4]
   obtain ⟨slq,hq⟩:=hL.q
   have M5:=hq.kp k4 (by simp;exact fun e=>hL.d2 e.symm)
   have Xq:=hq.lo
   have hFq:Fz t4 (.sl bq 0 lq lq 1) (.iL (dk Q) lq) [bq]:= .sl bq 0 lq lq 1 (dk Q) _ 3 slq true M5.get (Nat.le_refl _) (by simp;omega) (by rw [List.drop_zero,List.take_of_length_le (by simp;omega)]) (aS _ _)
   have hQi:Is .i64 (.iL (dk Q) lq) Q:=by
    have:=Is.mk .i64 Q
    rwa [WX] at this
   refine ⟨_,⟨_,Q,q',l,rfl,hQi,by omega,rB,nD,?_,by rw [Ua,hlen];omega⟩,th (l:= [.sl bq 0 lq lq 1,q']) (l':= [.iL (dk Q) lq,q']) (bs:= [bq]++([]++ [])) (.cons _ _ _ _ _ _ (.one _ _ _ hFq) (.cons _ _ _ _ _ _ (.one _ _ _ (.at _ rB.atom)) .nil)) (by simp) hs l4 (fun b hb=>by simp only [List.append_nil,List.mem_singleton] at hb;subst hb;exact Xq)⟩
   have hR:vb (U.take n)=vb U:=by
    have:=iO U n (by omega)
    rw [Nat.zero_add] at IY
    rw [IY,Int.mul_zero,Int.add_zero] at this
    exact this.symm
   rw [List.drop_zero] at hWU
   have hU0:=hJ DL
   rw [hvl,hR]
   have h1:vb U % VV=((X:Int)*sc) % VV:=Int.emod_eq_emod_iff_emod_sub_eq_zero.2 (Int.emod_eq_zero_of_dvd hdv)
   rw [Int.emod_eq_of_lt hU0 hWU,Nj,Int.mul_comm _ sc,Int.mul_comm _ sc,Int.mul_emod_mul_of_pos _ _ (by omega)] at h1
   rw [h1,Int.mul_ediv_cancel_left _ (by omega),←Int.natCast_emod]
  ·obtain ⟨j,rfl⟩: ∃j,k=j+1:=⟨k - 1,by omega⟩
   clear hk
   rw [show ((j+1:Nat):Int) - 1=j by omega]
   have Qi:j+n<U.length:=by omega
   rw [show j+1+n=j+n+1 by omega] at IY
   have HK:=aa4 hn Qi IY
   have hun:=dF DL (j+n)
   have hu1:=dF DL (j+n - 1)
   have hu2:=dF DL (j+n - 2)
   have huj:=dF DL j
   have hul:=nu DL j (n - 2)
   have hUj:vb (U.drop j)<1000000000*VV:=by
    rw [eJ U (i:=j) (by omega)];omega
   have acr:U.getD (j+n) 0≤v1:=by
    have h1:=js U (j+1) (n - 1) (by omega)
    have h2:=(nu DL (j+1) (n - 1)).1
    rw [show j+1+(n - 1)=j+n by omega,eJ U (i:=j+n) Qi,IY,Int.mul_zero,Int.add_zero] at h1
    have h3:=js LV 0 (n - 1) (by omega)
    have h4:=(nu FX 0 (n - 1)).2
    rw [Nat.zero_add,eJ LV (i:=n - 1) (by omega),show n - 1+1=n by omega,zZ,Int.mul_zero,Int.add_zero,List.drop_zero,hVV,HI] at h3
    rw [List.drop_zero] at h4
    rcases (show U.getD (j+n) 0≤v1∨v1+1≤U.getD (j+n) 0 by omega) with h|h
    ·exact h
    ·have h5:bp (n - 1)*(v1+1)≤bp (n - 1)*U.getD (j+n) 0:=Int.mul_le_mul_of_nonneg_left h (by have:=fb (n - 1);omega)
     rw [Int.mul_add,Int.mul_one] at h5
     omega
   have PI:((j:Int)+n).toNat=j+n:=by omega
   have hT2:((j:Int)+n - 1).toNat=j+n - 1:=by omega
   have WY:((j:Int)+n - 2).toNat=j+n - 2:=by omega
   have IT:=fun {p:Nat} (hp:p<U.length)=>hL.ru hp
   have Bz:=fun {p:Nat} (hp:p<LV.length)=>hL.rv hp
   simp (disch:=omega) only [jU,st,si,Cj,br,PI,hT2,Hj]
   have hTB:U.getD (j+n) 0*1000000000+U.getD (j+n - 1) 0<(1000000000+2)*v1:=by omega
   have hg1:(U.getD (j+n) 0*1000000000+U.getD (j+n - 1) 0) / v1<1000000000+2:=Int.ediv_lt_of_lt_mul (by omega) hTB
   have hg0:0≤(U.getD (j+n) 0*1000000000+U.getD (j+n - 1) 0) / v1:=Int.ediv_nonneg (by omega) (by omega)
   have FU:=Int.emod_nonneg (U.getD (j+n) 0*1000000000+U.getD (j+n - 1) 0) (show v1≠0 by omega)
   have sF:=Int.emod_lt_of_pos (U.getD (j+n) 0*1000000000+U.getD (j+n - 1) 0) (show 0<v1 by omega)
   have Ab:=Int.mul_ediv_add_emod (U.getD (j+n) 0*1000000000+U.getD (j+n - 1) 0) v1
   simp (disch:=omega) only [st,si,Cj,br,PI,hT2,Hj,IT,Bz,HI]
   generalize hTg:U.getD (j+n) 0*1000000000+U.getD (j+n - 1) 0=T at*
   rw [Int.mul_comm] at Ab
   refine jnR (fun vs t'=> ∃g:Int,vs= [.int .i64 g,.int .i64 j,.sl bv 0 n LV.length 1,.sl bu 0 LU.length LU.length 1,.int .i64 n,.int .i64 sc,.sl bq 0 lq lq 1]∧t=t'∧0≤g∧g≤1000000000∧g*VV≤vb (U.drop j)+VV∧vb (U.drop j)<(g+1)*VV) ?_ ?_
   rotate_left
   ·
    intro j84 Qh
    refine aP (bW s _) (fun m vs t'=> ∃g r:Int,vs= [.int .i64 r,.int .i64 g,.int .i64 j,.sl bv 0 n LV.length 1,.sl bu 0 LU.length LU.length 1,.int .i64 n,.int .i64 sc,.sl bq 0 lq lq 1]∧t=t'∧0≤g∧g≤1000000001∧0≤r∧r<1000000000∧g*v1+r=T∧vb (U.drop j)<(g+1)*VV∧(m:Int)=g) ?_ _ (T / v1).toNat _ _
     ⟨T / v1,T % v1,rfl,rfl,hg0,by omega,FU,by omega,Ab,I1 HK PJ (by omega) hvl.1 Cg (by omega) (Eu Ab sF (by omega) HJ.1 hg0),by omega⟩ (by omega)
    rintro Nd m _ _ ⟨g,r,rfl,rfl,wH,KM,acn,aco,hgT,hUg,hm⟩ nG
    rcases (show (1000000000≤g)∨(g<1000000000∧r*1000000000+U.getD (j+n - 2) 0<g*v2)∨(g<1000000000∧ ¬r*1000000000+U.getD (j+n - 2) 0<g*v2) by omega) with h|⟨h,h'⟩|⟨h,h'⟩
    rotate_right
    ·have M3:=uQ (a:=g) (b:=v2) ⟨wH,h⟩ HJ
     have hex:=Aq (u2:=U.getD (j+n - 2) 0) hgT (show g*v2≤r*1000000000+U.getD (j+n - 2) 0 by omega)
     have nF:=I0 HK PJ hul.1 hvl.1 hvl.2 wH (by omega) hBV hex
     simp (disch:=omega) only [jU,st,si,Cj,br,Kl,WY,IT,Bz,Ln]
     exact Qh _ _ ⟨g,rfl,rfl,wH,by omega,nF,hUg⟩
    all_goals
     have W4:vb (U.drop j)<g*VV:=by
      first
       |(
        have h1:1000000000*VV≤g*VV:=Int.mul_le_mul_of_nonneg_right h (by omega)
        omega)
       |exact I1 HK PJ (by omega) hvl.1 Cg wH (HR hgT h')
     have hgp:1≤g:=by
      rcases (show g=0∨1≤g by omega) with h0|h0
      ·rw [h0,Int.zero_mul] at W4
       have:=hJ (lP j DL)
       omega
      ·exact h0
     have Qc:(g - 1)*v1+(r+v1)=T:=by rw [Int.sub_mul,Int.one_mul];omega
     have M3:g<1000000000→0≤g*v2∧g*v2≤999999998000000001:=fun h=>uQ ⟨wH,h⟩ HJ
     try have hm3:=M3 h
     by_cases Eb:1000000000≤r+v1
     ·have hm4:(g - 1)*v2≤1000000000*v2:=Int.mul_le_mul_of_nonneg_right (by omega) HJ.1
      have hex:=Aq (u2:=U.getD (j+n - 2) 0) Qc (show (g - 1)*v2≤(r+v1)*1000000000+U.getD (j+n - 2) 0 by omega)
      have nF:=I0 HK PJ hul.1 hvl.1 hvl.2 (show 0≤g - 1 by omega) (by omega) hBV hex
      simp (disch:=omega) only [jU,st,si,Cj,br,Hj,Kl,WY,IT,Bz,HI,Ln]
      exact Qh _ _ ⟨g - 1,rfl,rfl,by omega,by omega,nF,by rw [show g - 1+1=g by omega];exact W4⟩
     ·simp (disch:=omega) only [jU,st,si,Cj,br,Hj,Kl,WY,IT,Bz,HI,Ln]
      exact nG (g - 1).toNat _ _ (by omega) ⟨g - 1,r+v1,rfl,rfl,by omega,by omega,by omega,by omega,Qc,by rw [show g - 1+1=g by omega];exact W4,by omega⟩
   ·
    rintro _ _ ⟨g,rfl,rfl,wH,KM,ab5,XK⟩
    simp (disch:=omega) only [jU,st]
    refine aP (bW s _) (fun m vs t'=> ∃(W:List Int) (i:Nat) (c:Int),vs= [.int .i64 i,.int .i64 n,.int .i64 c,.int .i64 g,.int .i64 j,.sl bv 0 n LV.length 1,.sl bu 0 LU.length LU.length 1,.int .i64 n,.int .i64 sc,.sl bq 0 lq lq 1]∧LS s t' bu bv bq W LV Q∧
     gu W∧W.length=U.length∧0≤c∧c≤1000000000∧vb W=vb U+bp j*(bp i*c - g*vb (LV.take i))∧W.take j=U.take j∧W.drop (j+i)=U.drop (j+i)∧i+m=n) ?_ _ n _ _
     ⟨U,0,0,rfl,hL,DL,rfl,Int.le_refl _,by decide,by rw [List.take_zero,show vb []=0 from rfl,Int.mul_zero,Int.mul_zero,Int.sub_self,Int.mul_zero,Int.add_zero],rfl,rfl,Nat.zero_add _⟩ (by omega)
    rintro ihB m _ t5 ⟨W,i,c,rfl,PD,Xy,W7,Hq,ll,Yl,PK,Hk,him⟩ Qf
    have Le:=fun {p:Nat} (hp:p<W.length)=>PD.ru hp
    have QJ:=fun {p:Nat} (hp:p<LV.length)=>PD.rv hp
    by_cases hi:i<n
    ·have hTi:((i:Int)+j).toNat=j+i:=by omega
     have hup:W.getD (j+i) 0=U.getD (j+i) 0:=qC Hk (Nat.le_refl _)
     have hud:=dF Xy (j+i)
     have Uo:=dF FX i
     have hgm:0≤g*LV.getD i 0∧g*LV.getD i 0≤999999999000000000:=by
      have h1:0≤g*LV.getD i 0:=Int.mul_nonneg wH Uo.1
      have h2:g*LV.getD i 0≤1000000000*LV.getD i 0:=Int.mul_le_mul_of_nonneg_right KM Uo.1
      omega
     have wQ: ∀(d c':Int),0≤d→d<1000000000→d=W.getD (j+i) 0 - g*LV.getD i 0 - c+c'*1000000000→
       gu (W.set (j+i) d)∧vb (W.set (j+i) d)=vb U+bp j*(bp (i+1)*c' - g*vb (LV.take (i+1)))∧(W.set (j+i) d).take j=U.take j∧(W.set (j+i) d).drop (j+(i+1))=U.drop (j+(i+1)):=by
      intro d c' P5 lX iU
      refine ⟨ku Xy _ ⟨P5,lX⟩,?_,?_,?_⟩
      ·rw [kS _ _ _ (by omega),Yl,nr,lL,qW,iU]
       grind
      ·rw [List.take_set_of_le (by omega)];exact PK
      ·rw [List.drop_set_of_lt (by omega)];exact qD Hk (by omega)
     by_cases hneg:W.getD (j+i) 0 - g*LV.getD i 0 - c<0
     ·obtain ⟨d1,d2,d3,d4,_,_⟩:=BU (u:=W.getD (j+i) 0) (g:=g) (v:=LV.getD i 0) (c:=c) hud wH KM Uo Hq ll hneg
      have e0:0 - (W.getD (j+i) 0 - g*LV.getD i 0 - c)+1000000000 - 1= -(W.getD (j+i) 0 - g*LV.getD i 0 - c)+999999999:=by omega
      obtain ⟨t6,h6,Ki⟩:=PD.wu (j:=j+i) (by omega) (W.getD (j+i) 0 - g*LV.getD i 0 - c+(-(W.getD (j+i) 0 - g*LV.getD i 0 - c)+999999999) / 1000000000*1000000000)
      simp (disch:=omega) only [jU,st,si,Cj,br,hTi,Int.toNat_natCast,Le,QJ,AJ,e0,h6]
      obtain ⟨q1,q2,q3,q4⟩:=wQ _ _ d1 d2 rfl
      exact Qf (m - 1) _ _ (by omega) ⟨_,i+1,_,rfl,Ki,q1,by rw [List.length_set];exact W7,d3,d4,q2,q3,q4,by omega⟩
     ·obtain ⟨t6,h6,Ki⟩:=PD.wu (j:=j+i) (by omega) (W.getD (j+i) 0 - g*LV.getD i 0 - c)
      simp (disch:=omega) only [jU,st,si,Cj,br,hTi,Int.toNat_natCast,Le,QJ,h6]
      obtain ⟨q1,q2,q3,q4⟩:=wQ (W.getD (j+i) 0 - g*LV.getD i 0 - c) 0 (by omega) (by omega) (by omega)
      exact Qf (m - 1) _ _ (by omega) ⟨_,i+1,0,rfl,Ki,q1,by rw [List.length_set];exact W7,by omega,by omega,q2,q3,q4,by omega⟩
    ·have hin:i=n:=by omega
     subst hin
     rw [yx] at Yl
     have hWn:W.getD (j+i) 0=U.getD (j+i) 0:=qC Hk (Nat.le_refl _)
     obtain ⟨t6,h6,Ki⟩:=PD.wu (j:=j+i) (by omega) (U.getD (j+i) 0 - c)
     have Lm:vb (W.set (j+i) (U.getD (j+i) 0 - c))=vb U - bp j*(g*VV):=by
      rw [kS _ _ _ (by omega),Yl,hWn,lL]
      grind
     have K1:(W.set (j+i) (U.getD (j+i) 0 - c)).take j=U.take j:=by rw [List.take_set_of_le (by omega)];exact PK
     have KQ:(W.set (j+i) (U.getD (j+i) 0 - c)).drop (j+i+1)=U.drop (j+i+1):=by rw [List.drop_set_of_lt (by omega)];exact qD Hk (by omega)
     have sE: ∀p,p<j+i→0≤(W.set (j+i) (U.getD (j+i) 0 - c)).getD p 0∧(W.set (j+i) (U.getD (j+i) 0 - c)).getD p 0<1000000000:=fun p hp=>by
      rw [jT _ _ _ _ (by omega)];exact dF Xy p
     have Eh:(W.set (j+i) (U.getD (j+i) 0 - c)).getD (j+i) 0=U.getD (j+i) 0 - c:=xo (by omega)
     have uF:(W.set (j+i) (U.getD (j+i) 0 - c)).length=U.length:=by rw [List.length_set];exact W7
     generalize hW2:W.set (j+i) (U.getD (j+i) 0 - c)=W2 at*
     have QS:=Lw uF (by omega) K1 Lm
     have Ef:=HQ (Z:=W2) (j:=j) (n:=i) (by omega) (by rw [KQ];exact IY) sE
     rw [Eh,QS] at Ef
     have QG:=fun {p:Nat} (hp:p<W2.length)=>Ki.ru hp
     simp (disch:=omega) only [jU,st,si,Cj,br,PI]
     simp (disch:=omega) only [st,si,Cj,br,PI,Le,hWn,h6,QG,Eh]
     refine jnR (fun vs t'=> ∃(Z:List Int) (g':Int),vs= [.int .i64 g',.int .i64 j,.sl bv 0 i LV.length 1,.sl bu 0 LU.length LU.length 1,.int .i64 i,.int .i64 sc,.sl bq 0 lq lq 1]∧LS s t' bu bv bq Z LV Q∧Z.length=U.length∧Z.take j=U.take j∧Z.drop (j+i+1)=U.drop (j+i+1)∧
      (∀p,p<j+i→0≤Z.getD p 0∧Z.getD p 0<1000000000)∧vb Z=vb U - bp j*(g'*VV)∧g'*VV≤vb (U.drop j)∧vb (U.drop j)<(g'+1)*VV) ?_ ?_
     ·
      rintro _ t7 ⟨Z,g',rfl,MT,T1,Hl,yy,MU,hZv,hZ1,hZ2⟩
      obtain ⟨hZt,hZw⟩:=HP T1 Qi Hl yy IY MU hZv hZ1 hZ2 (by omega)
      obtain ⟨t8,h8,hL8⟩:=MT.wq (j:=j) (by omega) g'
      simp (disch:=omega) only [jU,st,si,Cj,br,Int.toNat_natCast,h8]
      refine eZ j _ _ (by omega) ⟨Z,_,rfl,hL8,?_,by omega,by rw [List.length_set];exact WX,?_,?_,hZw,by omega⟩
      ·refine JZ fun p hp=> ?_
       rcases (show p<j+i∨p=j+i∨j+i+1≤p by omega) with h|h|h
       ·exact MU p h
       ·rw [h,hZt];omega
       ·rw [qC yy h];exact dF DL p
      ·rw [hZv,show vb U - bp j*(g'*VV) - (X:Int)*sc=(vb U - X*sc) - VV*(bp j*g') by grind]
       exact Int.dvd_sub hdv (Int.dvd_mul_right _ _)
      ·rw [eJ Z (i:=j+i) (by omega),hZt,yy,IY];rfl
     ·intro acv IL
      by_cases Um:U.getD (j+i) 0 - c<0
      ·have hneg:=Ef.2 Um
       simp (disch:=omega) only [jU,st,si,br]
       refine aP (bW s _) (fun m vs t'=> ∃(Z:List Int) (i2:Nat) (c2:Int),vs= [.int .i64 i2,.int .i64 i,.int .i64 c2,.int .i64 (g - 1),.int .i64 j,.sl bv 0 i LV.length 1,.sl bu 0 LU.length LU.length 1,.int .i64 i,.int .i64 sc,.sl bq 0 lq lq 1]∧LS s t' bu bv bq Z LV Q∧
        Z.length=U.length∧0≤c2∧c2≤1∧vb Z=vb W2+bp j*(vb (LV.take i2) - bp i2*c2)∧Z.take j=U.take j∧Z.drop (j+i2)=W2.drop (j+i2)∧(∀p,p<j+i→0≤Z.getD p 0∧Z.getD p 0<1000000000)∧i2+m=i) ?_ _ i _ _
        ⟨W2,0,0,rfl,Ki,uF,Int.le_refl _,by decide,by rw [List.take_zero,show vb []=0 from rfl,Int.mul_zero,Int.sub_self,Int.mul_zero,Int.add_zero],K1,rfl,sE,Nat.zero_add _⟩ (by omega)
       rintro ihC m2 _ t9 ⟨Z,i2,c2,rfl,MT,T1,ab2,ab3,Ym,Hl,yy,MU,ab8⟩ XO
       have QH:=fun {p:Nat} (hp:p<Z.length)=>MT.ru hp
       have Ye:=fun {p:Nat} (hp:p<LV.length)=>MT.rv hp
       by_cases Hz:i2<i
       ·have WZ:((i2:Int)+j).toNat=j+i2:=by omega
        have hud:=MU (j+i2) (by omega)
        have Uo:=dF FX i2
        obtain ⟨t10,h10,Kh⟩:=MT.wu (j:=j+i2) (by omega) ((Z.getD (j+i2) 0+LV.getD i2 0+c2) % 1000000000)
        simp (disch:=omega) only [jU,st,si,Cj,br,WZ,Int.toNat_natCast,QH,Ye,h10]
        refine XO (m2 - 1) _ _ (by omega) ⟨_,i2+1,(Z.getD (j+i2) 0+LV.getD i2 0+c2) / 1000000000,rfl,Kh,by rw [List.length_set];exact T1,by omega,by omega,?_,?_,?_,fun p hp=> ?_,by omega⟩
        ·rw [kS _ _ _ (by omega),Ym,nr,lL,qW]
         have h3:=Int.mul_ediv_add_emod (Z.getD (j+i2) 0+LV.getD i2 0+c2) 1000000000
         generalize (Z.getD (j+i2) 0+LV.getD i2 0+c2) / 1000000000=e1 at*
         generalize (Z.getD (j+i2) 0+LV.getD i2 0+c2) % 1000000000=e2 at*
         have h4:e2=Z.getD (j+i2) 0+LV.getD i2 0+c2 - 1000000000*e1:=by omega
         rw [h4]
         grind
        ·rw [List.take_set_of_le (by omega)];exact Hl
        ·rw [List.drop_set_of_lt (by omega)];exact qD yy (by omega)
        ·by_cases La:p=j+i2
         ·rw [La,xo (by omega)];omega
         ·rw [jT _ _ _ _ (by omega)];exact MU p hp
       ·have XM:i2=i:=by omega
        subst XM
        have hZn:Z.getD (j+i2) 0=U.getD (j+i2) 0 - c:=by rw [qC yy (Nat.le_refl _)];exact Eh
        rw [yx] at Ym
        obtain ⟨t10,h10,Kh⟩:=MT.wu (j:=j+i2) (by omega) (U.getD (j+i2) 0 - c+c2)
        simp (disch:=omega) only [jU,st,si,Cj,br,PI,QH,hZn,h10]
        refine IL _ _ ⟨_,g - 1,rfl,Kh,by rw [List.length_set];exact T1,?_,?_,fun p hp=> ?_,?_,?_,?_⟩
        ·rw [List.take_set_of_le (by omega)];exact Hl
        ·rw [List.drop_set_of_lt (by omega),qD yy (by omega)];exact KQ
        ·rw [jT _ _ _ _ (by omega)];exact MU p hp
        ·rw [kS _ _ _ (by omega),hZn,Ym,Lm,lL]
         grind
        ·rw [Int.sub_mul,Int.one_mul];omega
        ·rw [show g - 1+1=g by omega];omega
      ·have hpos:=Ef.1 (by omega)
       simp (disch:=omega) only [jU,st]
       exact IL _ _ ⟨W2,g,rfl,Ki,uF,K1,KQ,sE,Lm,by omega,XK⟩) (by omega)
theorem ZH {s t:S} {b1 b2 t1 t2:Nat} {sl1 ZT:Bool} {Ir JW l1 l2:List V} (h1:dX s t b1 Ir t1 sl1) (h2:dX s t b2 JW t2 ZT) (hne:b1≠b2) (hl:Loc s t) (h0:s.wm=s.n) (ll:Ir.length=2) (qG:JW.length=2) (pX:l1.length=2) (uF:l2.length=2) (a1:l1.all atom=true) (a2:l2.all atom=true):
  (af (aq t (aB 2 (.ptr b1 0) (.agg l1) (aw t))) fun _ u=>af (aq u (aB 2 (.ptr b2 0) (.agg l2) (aw u))) fun _ u'=>aC s u' [aD 2 u' (.ptr b1 0),aD 2 u' (.ptr b2 0)])=some (.dQ [.agg l1,.agg l2],s):=by
 have sc: ∀ {l:List V},l.all atom=true→l.all aR=true:=fun h=>by
  rw [List.all_eq_true] at h ⊢
  exact fun x hx=>mv (h x hx)
 obtain ⟨u,e1,c1,m1,j1,_⟩:=h1.put hl pX ll (sc a1)
 obtain ⟨u',e2,c2,m2,j2,_⟩:=(h2.kp j1 (by simp;exact fun e=>hne e.symm)).put m1 uF qG (sc a2)
 have B7:=c1.kp j2 (by simp;exact hne)
 rw [e1,bS,e2,bS,eV B7.rd (by omega),eV c2.rd (by omega),List.drop_zero,List.drop_zero,List.take_of_length_le (by omega),List.take_of_length_le (by omega)]
 exact lR (JD a1 a2) (by omega) m2.fx
def DQ (X Y:Nat) (r:V):Prop:= ∃a b n l,r= .dQ [a,b]∧RV n l a∧CV ((X % Y:Nat):Int) b
theorem Wb {v w:V} {X Y:Nat} (hv:Is .i64 v (nd X)) (hw:Is .i64 w (nd Y)) (hY:0<Y) (hl:(nd X).length≤1000000) (fg:(nd Y).length≤1000000):eL cx 195 [v,w] (DQ X Y):=fun s hs=>
 (NZ (aE (by decide))).fD 0 (by
  show bW s _ (GH cx 0 v w s)
  unfold GH
  obtain ⟨s1,e1,b1,l1,k1,n1⟩:=ca [.bool false,.ah] 43 (Loc.refl hs)
  obtain ⟨s2,e2,b2,l2,k2,n2⟩:=ca [.bool false,.ah] 43 l1
  have eX:=b1.kp k2 (by simp)
  have yB:=b1.hi
  have hd:=bO (dr:=false) (st:=false) (G5 hv (cJ X)) (cU hv.az) l2.wm
  have gj:=bO (dr:=false) (st:=false) (G5 hw (cJ Y)) (cU hw.az) l2.wm
  rw [cn] at hd gj
  have fin: ∀(a b:V) (n:Bool) (l:List Int),RV n l a→CV ((X % Y:Nat):Int) b→
    bW s (DQ X Y) (af (aq s2 (aB 2 (.ptr s.n 0) a (aw s2))) fun _ u=>af (aq u (aB 2 (.ptr s1.n 0) b (aw u))) fun _ u'=>aC s u' [aD 2 u' (.ptr s.n 0),aD 2 u' (.ptr s1.n 0)]):=by
   intro a b n l ha hb
   have lj:=ha
   have gY:=hb
   obtain ⟨d,rfl,Aa⟩:=ha
   obtain ⟨e,rfl,Ad⟩:=hb
   exact ⟨_,⟨_,_,n,l,rfl,lj,gY⟩,ZH eX b2 (by omega) l2 hs rfl rfl rfl rfl (RV.atoms Aa).2 (nS Ad).1⟩
  have TY:=Nat.mod_lt X hY
  by_cases h2:(nd X).length≤2∧(nd Y).length≤2
  ·rw [if_pos h2.1] at hd
   rw [if_pos h2.2] at gj
   have hX:=ml h2.1
   have hY2:=ml h2.2
   have hq:=Nat.div_le_self X Y
   obtain ⟨a,ha,f1⟩:=dM (G6 false (X / Y) (by omega)) (cC rfl rfl) l2.wm
   obtain ⟨b,hb,f2⟩:=dM (G6 false (X % Y) (by omega)) (cC rfl rfl) l2.wm
   obtain ⟨d,rfl,Aa⟩:=ha
   obtain ⟨e,rfl,Ad⟩:=hb
   obtain ⟨t1,f3,c1,m1,j1,_⟩:=eX.mN (r:=some (ag.aF (.ptr s.n 0))) (w:=some (ag.aF (.ptr s.n 0))) (z:=2) l2 rfl rfl (nS Aa).2
   obtain ⟨t2,f4,c2,m2,j2,_⟩:=(b2.kp j1 (by simp;omega)).mN (r:=some (ag.aF (.ptr s1.n 0))) (w:=some (ag.aF (.ptr s1.n 0))) (z:=2) m1 rfl rfl (nS Ad).2
   have B7:=c1.kp j2 (by simp;omega)
   rw [Int.natCast_ediv] at f1 f3
   rw [Int.natCast_emod] at f2 f4
   have HD:0≤(X:Int) / Y:=Int.ediv_nonneg (by omega) (by omega)
   have nT:(X:Int) / Y≤X:=Int.ediv_le_self _ (by omega)
   have FU:=Int.emod_nonneg (X:Int) (show (Y:Int)≠0 by omega)
   have sF:=Int.emod_lt_of_pos (X:Int) (show 0<(Y:Int) by omega)
   simp (disch:=omega) only [jU,st,e1,e2,hd,gj,sf,si,br,eG,H9,f1,f2,f3,f4]
   refine wU (Iy [] 12 rfl ?_) ?_
   ·refine .c0 (.c0 (.c0 (.c0 (.c0 (.c0 (.c0 (.c0 (.c0 (.c0 (.cw (.inr ⟨_,rfl,fun _ _ h=>by cases h⟩) (by decide) (.cw (.inr ⟨_,rfl,fun _ _ h=>by cases h⟩) (by decide) trivial)))))))))))
   ·rw [B7.r2.2.2,c2.r2.2.2]
    exact ⟨_,⟨_,_,_,_,rfl,⟨d,rfl,Aa⟩,⟨e,rfl,Ad⟩⟩,lR (JD (nS Aa).1 (nS Ad).1) (by omega) m2.fx⟩
  ·
   have e3:=bO (dr:=false) (st:=false) (G7 hv hw (by omega)) (cC hv.az hw.az) l2.wm
   have Ch:(jb (X:Int) (Y:Int)<0↔X<Y):=by unfold jb;(repeat' split)<;>constructor<;>omega
   have rest: ∀K:bB,(bW s (DQ X Y) K→bW s (DQ X Y) K):=fun _ h=>h
   by_cases hlt:X<Y
   ·obtain ⟨a,⟨_,FQ⟩,f1⟩:=aU (dr:=false) (st:=true) (AY false hv (by omega)) (cC rfl hv.az) l2.wm
    have hc:=FQ (cJ X)
    rw [cn,show fm false (X:Int)=X from rfl,←Nat.mod_eq_of_lt hlt] at hc
    have hneg:=Ch.2 hlt
    by_cases h3:(nd X).length≤2
    ·rw [if_pos h3] at hd
     rw [if_neg (fun h=>h2 ⟨h3,h⟩)] at gj
     simp (disch:=omega) only [jU,st,si,e1,e2,hd,gj,e3,eB,f1]
     exact fin _ _ false [] RV.zero hc
    ·rw [if_neg h3] at hd
     simp (disch:=omega) only [jU,st,si,e1,e2,hd,e3,eB,f1]
     exact fin _ _ false [] RV.zero hc
   ·have hneg: ¬jb (X:Int) (Y:Int)<0:=fun h=>hlt (Ch.1 h)
    by_cases hone:(nd Y).length=1
    ·have Xg:=dF (cJ Y) 0
     have hYv:(nd Y).getD 0 0=Y:=by
      have:=cn Y
      match hn:nd Y,hone with
      | [y],_=>rw [hn] at this;simp [vb] at this;simp [this]
     rw [hYv] at Xg
     obtain ⟨r,⟨q,l,rfl,hq,QC,hqv,Lc⟩,f1⟩:=aU (dr:=false) (st:=false) (Pb hv (cJ X) (show 0<(Y:Int) by omega) (by omega) (by omega)) (cC hv.az rfl) l2.wm
     rw [cn,←Int.natCast_emod] at f1
     obtain ⟨a,⟨⟨n',l',ha⟩,_⟩,f2⟩:=aU (dr:=false) (st:=true) (AY false hq (by omega)) (cC rfl hq.az) l2.wm
     obtain ⟨b,hb,f3⟩:=aU (dr:=false) (st:=true) (G6 false (X % Y) (by omega)) (cC rfl rfl) l2.wm
     have gY:CV ((X % Y:Nat):Int) b:=hb
     have vF: ∀t:S,aM t (.dS (List.drop 0 (List.map (V.int .i64) (nd Y))))=some (.int .i64 (Y:Int)):=fun t=>by
      rw [dW .i64 (nd Y) t (by omega),hYv]
     have Qw:((nd Y).length:Int)=1:=by omega
     by_cases h3:(nd X).length≤2
     ·exact absurd ⟨h3,by omega⟩ h2
     ·rw [if_neg h3] at hd
      simp (disch:=omega) only [jU,st,si,e1,e2,hd,e3,hw.len,Qw,hw.ix,vF,f1,f2,eG,H9,f3]
      exact fin _ _ n' l' ha gY
    ·have hYl:2≤(nd Y).length:=by
      have h0:(nd Y).length≠0:=fun h=>by have:=I6 (List.length_eq_zero_iff.1 h);omega
      omega
     have hle:(nd Y).length≤(nd X).length:=fB (by omega)
     obtain ⟨r,⟨q,l,r',lr,rfl,hq,Lc,Al,hlr,hvr,ace⟩,f1⟩:=aU (dr:=false) (st:=false) (We hv hw hYl hle hl) (cC hv.az hw.az) l2.wm
     obtain ⟨a,⟨⟨n',l',ha⟩,_⟩,f2⟩:=aU (dr:=false) (st:=true) (AY false hq (by omega)) (cC rfl hq.az) l2.wm
     obtain ⟨b,⟨_,DK⟩,f3⟩:=aU (dr:=false) (st:=true) (AY false Al (by omega)) (cC rfl Al.az) l2.wm
     have hb:=DK hlr
     rw [hvr,show fm false ((X % Y:Nat):Int)=((X % Y:Nat):Int) from rfl] at hb
     by_cases h3:(nd X).length≤2
     ·exact absurd ⟨h3,by omega⟩ h2
     ·rw [if_neg h3] at hd
      simp (disch:=omega) only [jU,st,si,e1,e2,hd,e3,hw.len,f1,f2,f3]
      exact fin _ _ n' l' ha hb) (by omega)
theorem V7 {x y:Int} {a b:V} (ha:CV x a) (hb:CV y b) (hl:(nd x.natAbs).length≤1000000) (fg:(nd y.natAbs).length≤1000000):eL cx 159 [a,b] (CV ((Nat.gcd x.natAbs y.natAbs:Nat):Int)):=fun s hs=>
 (NO (aE (by decide))).fD (y.natAbs+1000000000000000002) (by
  obtain ⟨d,rfl,hd⟩:=ha
  obtain ⟨e,rfl,he⟩:=hb
  show bW s _ (Gv cx _ (.agg [.bool (decide (x<0)),d]) (.agg [.bool (decide (y<0)),e]) s)
  unfold Gv
  generalize hF:y.natAbs+1000000000000000002=F
  obtain ⟨s1,e1,b1,l1,k1,n1⟩:=ca [.bool (decide (x<0)),d] 43 (Loc.refl hs)
  obtain ⟨s2,e2,b2,l2,k2,n2⟩:=ca [.bool (decide (y<0)),e] 43 l1
  obtain ⟨s3,e3,b3,l3,k3,n3⟩:=ca [.bool false,.ah] 43 l2
  have eX:=(b1.kp k2 (by simp)).kp k3 (by simp)
  have kr:=b2.kp k3 (by simp)
  obtain ⟨u,⟨_,hu⟩,e4⟩:=dM (AY false hd (by omega)) (cC rfl (Is.az hd)) l3.wm
  have hu:=hu (cJ _)
  rw [cn] at hu
  obtain ⟨du,rfl,FR⟩:=CV.nat hu
  obtain ⟨w,⟨_,hw⟩,e6⟩:=dM (AY false he (by omega)) (cC rfl (Is.az he)) l3.wm
  have hw:=hw (cJ _)
  rw [cn] at hw
  obtain ⟨dw,rfl,DO⟩:=CV.nat hw
  obtain ⟨s4,h4,e5,b4,l4,k4,n4⟩:=AW (cs:= [.bool false,.ah]) (t:=43) (r:=some []) l3
  obtain ⟨s5,h5,e7,b5,l5,k5,n5⟩:=AW (cs:= [.bool false,.ah]) (t:=43) (r:=some []) l4
  have Qe:=b3.hi
  have hi4:=b4.hi
  obtain ⟨s6,e8,b6,l6,k6,n6⟩:=(b4.kp k5 (by simp)).mN (r:=some (ag.aF (.ptr s3.n 0))) (w:=some (ag.aF (.ptr s3.n 0))) (l:= [.bool false,du]) (z:=2) l5 rfl rfl (ff FR).1
  obtain ⟨s7,e9,b7,l7,k7,n7⟩:=(b5.kp k6 (by simp;omega)).mN (r:=some (ag.aF (.ptr s4.n 0))) (w:=some (ag.aF (.ptr s4.n 0))) (l:= [.bool false,dw]) (z:=2) l6 rfl rfl (ff DO).1
  have b6':=b6.kp k7 (by simp;omega)
  have Im:=(((b3.kp k4 (by simp)).kp k5 (by simp)).kp k6 (by simp;omega)).kp k7 (by simp;omega)
  simp (disch:=omega) only [st,sf,dt,e1,e2,e3,cS,eX.r2,kr.r2,e4,e6,e5,e7,e8,e9]
  refine wU (Iy [] 10 rfl (.c0 (.c0 (.c0 (.c0 (.c0 (.c0 (.c0 (.c0 (.cw (.inr ⟨_,rfl,fun _ _ h=>by cases h⟩) (by decide) (.cw (.inr ⟨_,rfl,fun _ _ h=>by cases h⟩) (by decide) trivial))))))))))) ?_
  simp (disch:=omega) only [jU]
  refine aP (bW s _) (fun k vs t=> ∃(X Y:Nat) (dx dy:V),vs= [.ptr s4.n 0,.ptr s3.n 0,.ptr s2.n 0]∧Loc s t∧dX s t s4.n [.bool false,dy] 43 false∧dX s t s3.n [.bool false,dx] 43 false∧dX s t s2.n [.bool false,.ah] 43 false∧
   Is .i64 dx (nd X)∧Is .i64 dy (nd Y)∧(nd X).length≤1000000∧(nd Y).length≤1000000∧Nat.gcd x.natAbs y.natAbs=Nat.gcd X Y∧k=Y) ?_ _ y.natAbs _ _
   ⟨x.natAbs,y.natAbs,du,dw,rfl,l7,b7,b6',Im,FR,DO,hl,fg,rfl,rfl⟩ (by omega)
  rintro ih k _ t ⟨X,Y,dx,dy,rfl,hlt,qy,qx,qr,oO,mL,XV,Qm,hg,rfl⟩ eZ
  by_cases hY:k=0
  ·subst hY
   have hz:(nd 0).length=0:=by rw [cG];rfl
   simp (disch:=omega) only [jU,st,si,cS,qy.r2,qx.r2,mL.len]
   rw [hg,Nat.gcd_zero_right]
   exact ⟨_,CV.kI oO,gz qr hlt hs rfl rfl (ff oO).2⟩
  ·have hpos:0<(nd k).length:=List.length_pos_iff.2 (rN hY)
   have f1:=bO (dr:=false) (st:=false) (G5 oO (cJ _)) (cU oO.az) hlt.wm
   have f2:=bO (dr:=false) (st:=false) (G5 mL (cJ _)) (cU mL.az) hlt.wm
   rw [cn] at f1 f2
   by_cases h2:(nd X).length≤2∧(nd k).length≤2
   ·have hX:=ml h2.1
    have hk2:=ml h2.2
    rw [if_pos h2.1] at f1
    rw [if_pos h2.2] at f2
    simp (disch:=omega) only [jU,st,si,cS,qy.r2,qx.r2,mL.len,f1,f2]
    refine aP (bW s _) (fun j vs u=> ∃(m n:Nat),vs= [.int .i64 n,.int .i64 m,.ptr s2.n 0]∧t=u∧Nat.gcd x.natAbs y.natAbs=Nat.gcd m n∧j=n∧m<1000000000000000000∧n<1000000000000000000) ?_ _ k _ _
     ⟨X,k,rfl,rfl,hg,rfl,hX,hk2⟩ (by omega)
    rintro Nd j _ _ ⟨m,n,rfl,rfl,Hw,rfl,hm,K3⟩ nG
    by_cases hj:j=0
    ·subst hj
     obtain ⟨c,hc,f3⟩:=aU (dr:=false) (st:=true) (G6 false m (by omega)) (cC rfl rfl) hlt.wm
     have xR:CV (m:Int) c:=hc
     obtain ⟨dc,rfl,iU⟩:=CV.nat xR
     simp (disch:=omega) only [jU,st,si,show ((0:Nat):Int)=0 from rfl,eG,H9,f3]
     rw [Hw,Nat.gcd_zero_right]
     exact ⟨_,CV.kI iU,gz qr hlt hs rfl rfl (ff iU).2⟩
    ·have Ah:=Nat.mod_lt m (show j>0 by omega)
     simp (disch:=omega) only [jU,st,si]
     exact nG (m % j) _ _ Ah ⟨j,m % j,by rw [Int.natCast_emod],rfl,by rw [Hw];exact om m j,rfl,K3,by omega⟩
   ·have D3:X % k<k:=Nat.mod_lt _ (by omega)
    obtain ⟨r2,⟨ru,rw',nq,lq,rfl,IT,Uk⟩,f3⟩:=aU (dr:=false) (st:=true) (Wb oO mL (by omega) XV Qm) (cC oO.az mL.az) hlt.wm
    obtain ⟨dq,rfl,Xz⟩:=IT
    obtain ⟨dm,rfl,Ab⟩:=CV.nat Uk
    obtain ⟨t1,g2,c1,m1,j1,_⟩:=ca [.bool false,.ah] 43 hlt
    obtain ⟨t2,g3,c2,m2,j2,_⟩:=ca [.bool false,.ah] 43 m1
    have ll:=c1.hi
    obtain ⟨t3,g4,c3,m3,j3,_⟩:=(c1.kp j2 (by simp)).put (l:= [.bool nq,dq]) (z:=2) m2 rfl rfl (RV.atoms Xz).1
    obtain ⟨t4,g5,c4,m4,j4,_⟩:=(c2.kp j3 (by simp;omega)).put (l:= [.bool false,dm]) (z:=2) m3 rfl rfl (ff Ab).1
    have hqy:=qy.hi
    have hqx:=qx.hi
    have hqr:=qr.hi
    have py:=(((qy.kp j1 (by simp)).kp j2 (by simp)).kp j3 (by simp;omega)).kp j4 (by simp;omega)
    have px:=(((qx.kp j1 (by simp)).kp j2 (by simp)).kp j3 (by simp;omega)).kp j4 (by simp;omega)
    have pr:=(((qr.kp j1 (by simp)).kp j2 (by simp)).kp j3 (by simp;omega)).kp j4 (by simp;omega)
    obtain ⟨t5,g6,Zu,m5,j5,_⟩:=px.mN (r:=some (ag.aF (.ptr s3.n 0))) (w:=some (ag.aF (.ptr s3.n 0))) (l:= [.bool false,dy]) (z:=2) m4 rfl rfl (ff mL).1
    obtain ⟨t6,g7,Zv,m6,j6,_⟩:=(py.kp j5 (by simp;omega)).mN (r:=some (ag.aF (.ptr s4.n 0))) (w:=some (ag.aF (.ptr s4.n 0))) (l:= [.bool false,dm]) (z:=2) m5 rfl rfl (ff Ab).1
    have goal:bW s (CV ((Nat.gcd x.natAbs y.natAbs:Nat):Int)) (ih [.ptr s4.n 0,.ptr s3.n 0,.ptr s2.n 0] t6):=
     eZ (X % k) _ _ D3 ⟨k,X % k,dy,dm,rfl,m6,Zv,Zu.kp j6 (by simp;omega),(pr.kp j5 (by simp;omega)).kp j6 (by simp;omega),mL,Ab,Qm,by have:=fB (Nat.le_of_lt D3);omega,by rw [hg];exact om X k,rfl⟩
    by_cases h3:(nd X).length≤2
    ·rw [if_pos h3] at f1
     rw [if_neg (fun h=>h2 ⟨h3,h⟩)] at f2
     simp (disch:=omega) only [jU,st,si,cS,qy.r2,qx.r2,mL.len,f1,f2,f3,g2,g3,g4,g5,sf,py.r2,c4.r2,g6,g7]
     exact wU (Bf (by omega)) goal
    ·rw [if_neg h3] at f1
     by_cases h4:(nd k).length≤2
     ·rw [if_pos h4] at f2
      simp (disch:=omega) only [jU,st,si,cS,qy.r2,qx.r2,mL.len,f1,f2,f3,g2,g3,g4,g5,sf,py.r2,c4.r2,g6,g7]
      exact wU (Bf (by omega)) goal
     ·rw [if_neg h4] at f2
      simp (disch:=omega) only [jU,st,si,cS,qy.r2,qx.r2,mL.len,f1,f2,f3,g2,g3,g4,g5,sf,py.r2,c4.r2,g6,g7]
      exact wU (Bf (by omega)) goal) (by omega)
theorem Wa (x:Int):jK cx 191 [.int .i64 x] (.bool (!Av x)):=fun s hs=>
 (NV (aE (by decide))).run 0 (by
  show GC cx 0 (.int .i64 x) s=_
  unfold GC Av
  by_cases h1:x<0
  ·simp (disch:=omega) only [st,si]
   rw [aO rfl (by omega) (by omega),decide_eq_false (show ¬0≤x by omega)];rfl
  ·by_cases h2:1000000000≤x
   ·simp (disch:=omega) only [st,si]
    rw [aO rfl (by omega) (by omega),decide_eq_true h2,decide_eq_false (show ¬x<1000000000 by omega),Bool.and_false];rfl
   ·simp (disch:=omega) only [st,si]
    rw [aO rfl (by omega) (by omega),decide_eq_false h2,decide_eq_true (show x<1000000000 by omega),decide_eq_true (show 0≤x by omega)];rfl) (by omega)
theorem Wd {v:V} {l:List Int} (hv:Is .i64 v l) (hl:l.length≤1000000000):eL cx 217 [v,.fn 191 [] []] (fun r=> ∃n:Int,r= .int .i64 n∧(0≤n↔l.all Av=false)):=fun s hs=>
 (N2 (aE (by decide))).fD (l.length+1) (by
  show bW s _ (GK cx _ v (.fn 191 [] []) s)
  unfold GK
  generalize hF:l.length+1=F
  simp (disch:=omega) only [jU,st,si,hv.len]
  refine aP (bW s _) (fun k vs t=> ∃i:Nat,vs= [.int .i64 i,.int .i64 (l.length:Int),.fn 191 [] [],v]∧s=t∧i+k=l.length∧(l.take i).all Av=true) ?_ _ l.length _ _ ⟨0,rfl,rfl,by omega,rfl⟩ (by omega)
  rintro ih k _ _ ⟨i,rfl,rfl,hk,gh⟩ eZ
  by_cases hi:i<l.length
  ·have e1:=bO (dr:=false) (st:=false) (Wa (l.getD i 0)) (cU rfl) (s:=s) (by omega)
   simp (disch:=omega) only [jU,st,si,hv.ix,dW,Int.toNat_natCast,e1]
   cases ho:Av (l.getD i 0) with
   |false=>
    simp (disch:=omega) only [jU,st,Bool.not_false]
    refine ⟨_,⟨(i:Int),rfl,?_⟩,aO rfl (by omega) (by omega)⟩
    have:l.all Av=false:=by
     rw [List.all_eq_false]
     exact ⟨_,dh l 0 hi,by rw [ho];exact Bool.false_ne_true⟩
    rw [this]
    exact ⟨fun _=>rfl,fun _=>by omega⟩
   |true=>
    simp (disch:=omega) only [jU,st,si,Bool.not_true,br]
    refine eZ (k - 1) _ _ (by omega) ⟨i+1,rfl,rfl,by omega,?_⟩
    have:l.take (i+1)=l.take i++ [l.getD i 0]:=by rw [List.take_add_one];simp [hi]
    rw [this,List.all_append,gh,List.all_cons,List.all_nil,ho];rfl
  ·rw [List.take_of_length_le (by omega)] at gh
   simp (disch:=omega) only [jU,st,si]
   refine ⟨_,⟨-1,rfl,?_⟩,aO rfl (by omega) (by omega)⟩
   rw [gh]
   exact ⟨fun h=>by omega,fun h=>by cases h⟩) (by omega)
theorem V9 {v:V} {l:List Int} (hv:Is .i64 v l) (hl:l.length≤1000000000):jK cx 190 [v,.fn 191 [] []] (.bool (!l.all Av)):=fun s hs=>
 (NU (aE (by decide))).run 0 (by
  show GB cx 0 v (.fn 191 [] []) s=_
  unfold GB
  obtain ⟨r,⟨n,rfl,hn⟩,e1⟩:=aU (dr:=false) (st:=false) (Wd hv hl) (cC hv.az rfl) (s:=s) (by omega)
  simp (disch:=omega) only [st,si,e1]
  rw [aO rfl (by omega) (by omega)]
  congr 3
  cases h:l.all Av with
  |false=>rw [h] at hn;exact decide_eq_true (hn.2 rfl)
  |true=>rw [h] at hn;exact decide_eq_false (fun h'=>by have:=hn.1 h';cases this)) (by omega)
theorem JN {neg:Bool} {l:List Int} {a:V} (ha:RV neg l a) (hl:l.length≤1000000000):jK cx 157 [a] (.bool (sG neg l)):=fun s hs=>
 (NM (aE (by decide))).run 0 (by
  obtain ⟨d,rfl,hd⟩:=ha
  show Gt cx 0 (.agg [.bool neg,d]) s=_
  unfold Gt
  obtain ⟨s1,e1,b1,l1,k1,n1⟩:=ca [.bool neg,d] 43 (Loc.refl hs)
  have e2:=bO (dr:=false) (st:=false) (V9 hd hl) (cC (Is.az hd) rfl) l1.wm
  unfold sG
  cases gh:l.all Av with
  |false=>
   rw [gh] at e2
   simp (disch:=omega) only [jE,st,dt,e1,cS,b1.r2,e2,Bool.not_false]
   exact aO rfl (by omega) l1.fx
  |true=>
   rw [gh] at e2
   by_cases h0:l.length=0
   ·rw [if_pos h0]
    cases neg<;>(
     simp (disch:=omega) only [jE,st,si,dt,e1,cS,b1.r2,e2,Bool.not_true,hd.len,ea]
     try simp (disch:=omega) only [jE,st,si,Bool.not_false]
     exact aO rfl (by omega) l1.fx)
   ·rw [if_neg h0]
    have hT:((l.length:Int) - 1).toNat=l.length - 1:=by omega
    simp (disch:=omega) only [jE,st,si,dt,e1,cS,b1.r2,e2,Bool.not_true,hd.len,hd.ix,dW,br,hT]
    exact aO rfl (by omega) l1.fx) (by omega)
theorem OQ {x:Int} {a:V} (ha:CV x a) (hl:(nd x.natAbs).length≤900000):xM cx 100 [a] 5 1 (eC (iF x)).length (Bs (eC (iF x))):=fun s hs=>
 (UN (aE (by decide))).runN 0 (by
  have lj:=ha
  obtain ⟨d,rfl,hd⟩:=ha
  show fE s 5 1 _ _ (Jl cx 0 (.agg [.bool (decide (x<0)),d]) s)
  unfold Jl
  obtain ⟨s1,e1,b1,l1,k1,n1⟩:=ca [.bool (decide (x<0)),d] 43 (Loc.refl hs)
  have f1:=jz (O5 lj) (cU lj.az) l1.wm
  obtain ⟨v1,t1,h1,f2,o1,m1,j1,g1⟩:=vR (e:=3) (z:=1) (len:=1) (r:=some []) l1 (ri (z:= .int .i64 0) (d:= .int .i64 (jb x 0)) rfl) rfl
  have eX:=b1.kp j1 (by simp)
  obtain ⟨v2,t2,w2,h2,f3,o2,m2,j2,g2,FL⟩:=Ii (te:=iV) (r:=some ([v1,d].flatMap ag.aF)) (w:=some (ag.aF v1)) m1 o1 hd (dZ _ _) rfl (by decide) (by rw [pO];omega)
  have Ni:Ow s t2 3 1 v2 (iF x).length (dk (iF x)):=by
   unfold iF
   rw [List.length_cons,Nat.add_comm];exact o2
  obtain ⟨x',sx,uE,hx'⟩:=B9 [] [] Ni (aS _ _) rfl rfl
  obtain ⟨v3,t3,h3,f4,o3,m3,j3,g3,_⟩:=lN m2 uE (fun b hb=>(Ni.lo hb).1) (Wm hx' (gT x) (by unfold iF;rw [List.length_cons];omega) _) (cY _)
  simp only [List.nil_append] at f4
  simp (disch:=omega) only [jN,dt,e1,st,sf,cS,b1.r2,f1,f2,eX.r2,f3,f4]
  refine wN (Iy (aA v2) 8 rfl ?_) (eP hs m3 o3 (aS _ _))
  refine .c0 (.c0 (.c0 (.c0 (.c0 (.cw ?_ (by decide) (.cz (fun c h=>h) (.c0 trivial)))))))
  rcases FL with h|⟨h,h'⟩
  ·exact .inl h
  ·refine .inr ⟨_,h,fun b hb qj=> ?_⟩
   rw [o1.tb] at hb
   have:=(o1.lo hb).2
   have:=h' b qj
   omega) (by omega)
theorem O7 {neg:Bool} {l:List Int} {a:V} (ha:RV neg l a) (hl:l.length≤1000000000):jK cx 158 [a] (.bool (sR neg l)):=fun s hs=>
 (NN (aE (by decide))).run 0 (by
  obtain ⟨d,rfl,hd⟩:=ha
  show Gu cx 0 (.agg [.bool neg,d]) s=_
  unfold Gu
  obtain ⟨s1,e1,b1,l1,k1,n1⟩:=ca [.bool neg,d] 43 (Loc.refl hs)
  unfold sR
  cases neg with
  |true=>
   simp (disch:=omega) only [st,si,dt,e1,cS,b1.r2,ea,Bool.not_true]
   exact aO rfl (by omega) l1.fx
  |false=>
   by_cases h1:l.length=1
   ·simp (disch:=omega) only [st,si,dt,e1,cS,b1.r2,ea,Bool.not_false,hd.len,h1,hd.ix,dW,Int.toNat_zero]
    rw [aO rfl (by omega) l1.fx]
    simp
   ·simp (disch:=omega) only [st,si,dt,e1,cS,b1.r2,ea,Bool.not_false,hd.len]
    rw [aO rfl (by omega) l1.fx]
    simp [h1]) (by omega)
theorem V0 {np nq:Bool} {lp lq:List Int} {a:V} (ha:RR np lp nq lq a) (hl:lp.length≤1000000) (fg:lq.length≤1000000):jK cx 106 [a] (.bool (Cn np lp nq lq)):=fun s hs=>
 (Nt (aE (by decide))).run 0 (by
  obtain ⟨d,e,rfl,hd,he⟩:=ha
  show F6 cx 0 (.agg [.bool np,d,.bool nq,e]) s=_
  unfold F6
  obtain ⟨s1,e1,b1,l1,k1,n1⟩:=ca [.bool np,d,.bool nq,e] 45 (Loc.refl hs)
  have hP:RV np lp (.agg [.bool np,d]):=⟨d,rfl,hd⟩
  have hQ:RV nq lq (.agg [.bool nq,e]):=⟨e,rfl,he⟩
  have f1:=bO (dr:=false) (st:=false) (JN hP (by omega)) (cU hP.az) l1.wm
  have f2:=bO (dr:=false) (st:=false) (JN hQ (by omega)) (cU hQ.az) l1.wm
  have f3:=bO (dr:=false) (st:=false) (O7 hQ (by omega)) (cU hQ.az) l1.wm
  unfold Cn
  cases h1:sG np lp with
  |false=>
   rw [h1] at f1
   simp (disch:=omega) only [jE,st,si,gS,dt,e1,cS,B8,b1.r4,f1,ea,Bool.not_false]
   exact aO rfl (by omega) l1.fx
  |true=>
   rw [h1] at f1
   cases h2:sG nq lq with
   |false=>
    rw [h2] at f2
    simp (disch:=omega) only [jE,st,si,gS,dt,e1,cS,B8,b1.r4,f1,f2,ea,Bool.not_false,Bool.not_true]
    exact aO rfl (by omega) l1.fx
   |true=>
    rw [h2] at f2
    cases nq with
    |true=>
     simp (disch:=omega) only [jE,st,si,gS,dt,e1,cS,B8,b1.r4,f1,f2,ea,Bool.not_true]
     exact aO rfl (by omega) l1.fx
    |false=>
     cases h3:sR false lq with
     |true=>
      rw [h3] at f3
      simp (disch:=omega) only [jE,st,si,gS,dt,e1,cS,B8,b1.r4,f1,f2,f3,ea,Bool.not_true]
      exact aO rfl (by omega) l1.fx
     |false=>
      rw [h3] at f3
      by_cases h4:lq.length=0
      ·simp (disch:=omega) only [jE,st,si,gS,dt,e1,cS,B8,b1.r4,f1,f2,f3,ea,Bool.not_true,he.len]
       rw [aO rfl (by omega) l1.fx,decide_eq_true h4];rfl
      ·have PE:=hP.cv h1
       have PG:=hQ.cv h2
       obtain ⟨_,_,a1,a2,a3,_⟩:=jF h1
       obtain ⟨_,_,c1,c2,c3,_⟩:=jF h2
       obtain ⟨g,hg,f4⟩:=aU (dr:=false) (st:=false) (V7 PE PG (by rw [a2,a1];exact hl) (by rw [c2,c1];exact fg)) (cC PE.az PG.az) l1.wm
       rw [a2,c2] at hg
       obtain ⟨dg,rfl,KA⟩:=CV.nat hg
       have hgl:(nd (Nat.gcd (vb lp).toNat (vb lq).toNat)).length≤1000000:=by
        have HD:0<(vb lq).toNat:=by
         rcases (show (vb lq).toNat=0∨0<(vb lq).toNat by omega) with h6|h6
         ·rw [h6,cG] at c1;rw [←c1] at h4;exact absurd rfl h4
         ·exact h6
        have:=fB (Nat.le_of_dvd HD (Nat.gcd_dvd_right (vb lp).toNat (vb lq).toNat))
        rw [c1] at this;omega
       have f5:=bO (dr:=false) (st:=false) (O7 (neg:=false) ⟨dg,rfl,KA⟩ (by omega)) (cU (ff KA).2) l1.wm
       rw [oC] at f5
       simp (disch:=omega) only [jE,st,si,gS,dt,e1,cS,B8,b1.r4,f1,f2,f3,ea,Bool.not_true,he.len,f4,f5]
       rw [aO rfl (by omega) l1.fx,decide_eq_false h4];rfl) (by omega)
def Fr (s₀ s:S) (x:V) (l:Nat) (cs:List V):Prop:=(x= .ah∧l=0∧cs= [])∨ ∃b,x= .sl b 0 l l 1∧s₀.n≤b∧b<s.n∧Rd s b cs∧cs.length=l
theorem Ow.fr {s₀ s:S} {e l:Nat} {x:V} {cs:List V} (h:Ow s₀ s e 1 x l cs):Fr s₀ s x l cs:=by
 cases h with
 |nil=>exact .inl ⟨rfl,rfl,rfl⟩
 |aF b l cs bL h hl=>exact .inr ⟨b,rfl,h.lo,h.hi,h.rd,by omega⟩
theorem Fr.mono {s₀ s s':S} {x:V} {l:Nat} {cs:List V} (h:Fr s₀ s x l cs) (hn:s.n≤s'.n) (hr: ∀c cs,Rd s c cs→c<s.n→c∈aA x→Rd s' c cs):Fr s₀ s' x l cs:=by
 rcases h with h|⟨b,rfl,h1,h2,h3,h4⟩
 ·exact .inl h
 ·exact .inr ⟨b,rfl,h1,by omega,hr b cs h3 h2 (by simp [aA]),h4⟩
theorem Fr.kp {s₀ s s':S} {x:V} {l:Nat} {cs:List V} {X:List Nat} (h:Fr s₀ s x l cs) (hk:Kp s s' X) (hx: ∀b,b∈aA x→b∉X):Fr s₀ s' x l cs:=
 h.mono hk.1 fun c cs' hr hc hb=>by
  obtain ⟨e,bL,own,hg⟩:=hr
  exact ⟨e,bL,own,by rw [hk.2 c hc (hx c hb)];exact hg⟩
theorem Fr.fz {s₀ s:S} {x:V} {l:Nat} {cs:List V} (h:Fr s₀ s x l cs) (ha:cs.all atom=true): ∃x' bs,Fz s x x' bs∧Fs 1 x' l cs∧(∀b,b∈bs→s₀.n≤b)∧ ∀b,b∈bs→b∈aA x:=by
 rcases h with ⟨rfl,rfl,rfl⟩|⟨b,rfl,h1,h2,⟨e,bL,own,hg⟩,h4⟩
 ·exact ⟨.ah, [],.at _ rfl,.nil,(fun b h=>by cases h),(fun b h=>by cases h)⟩
 ·refine ⟨_,_,.sl b 0 l l 1 cs cs e bL own hg (Nat.le_refl _) (by omega) (by rw [List.drop_zero,List.take_of_length_le (by omega)]) ha,.mk _ _ (by omega),fun c hc=> ?_,fun c hc=> ?_⟩<;>(
   cases own<;>simp at hc
   subst hc
   first|exact h1|simp [aA])
theorem Fr.aw {s₀ s:S} {x:V} {l:Nat} {cs:List V} (h:Fr s₀ s x l cs):Fr s₀ (X.aw s) x l cs:=h
theorem Fr.agg {s₀ s:S} {x:V} {ds:List Int} {neg:Bool} (h:Fr s₀ s x ds.length (dk ds)): ∃x' bs,xV s (.agg [.bool neg,x]) (.agg [.bool neg,x']) bs∧RV neg ds (.agg [.bool neg,x'])∧(∀b,b∈bs→s₀.n≤b)∧ ∀b,b∈bs→b∈aA x:=by
 obtain ⟨x',bs,h1,h2,h3,h4⟩:=h.fz (aS _ _)
 refine ⟨x', []++(bs++ []),.agg _ _ _ (.cons _ _ _ _ _ _ (.at _ rfl) (.cons _ _ _ _ _ _ h1 .nil)),⟨x',rfl,h2⟩,?_,?_⟩<;>simpa
theorem OS {v:V} {b:List Int} (hv:Is .u8 v b) (hb:bytes b) (hlen:b.length≤1000000):eL cx 105 [v] (D4 (dI b)):=fun s hs=>
 (UR (aE (by decide))).fD 0 (by
  show bW s _ (Jp cx 0 v s)
  unfold Jp
  obtain ⟨s1,e1,b1,l1,k1,n1⟩:=ca [.bool false,.ah] 43 (Loc.refl hs)
  obtain ⟨r3,⟨w,rfl,hw⟩,e2⟩:=aU (dr:=false) (st:=false) (Wo hv hb hlen) (cU hv.az) l1.wm
  have hL:=kC hb
  have hr:=uw hb
  have bad: ∀(t:S) (n e:Int),Loc s t→dX s t s.n [.bool false,.ah] 43 false→ ∃t',aq t (aB 2 (.ptr s.n 0) (.agg [.bool false,.ah]) (aw t))=some (.bad,t')∧aC s t' [aD 2 t' (.ptr s.n 0),some (.int .i64 n),some (.int .i64 e)]=some (.dQ [.agg [.bool false,.ah],.int .i64 n,.int .i64 e],s):=by
   intro t n e hlt DJ
   obtain ⟨t',f1,c1,m1,_,_⟩:=DJ.put (l:= [.bool false,.ah]) (z:=2) hlt rfl rfl rfl
   exact ⟨t',f1,p7 c1 m1 hs rfl rfl⟩
  have yB:=b1.hi
  unfold dI
  generalize gL b=r at*
  by_cases h1:r.2.2=0
  ·rw [if_neg (by omega)]
   by_cases h2:r.1.length=0
   ·rw [if_pos h2]
    obtain ⟨t',f1,f2⟩:=bad s1 0 2 l1 b1
    simp (disch:=omega) only [jU,st,si,e1,e2,h1,ne_eq,not_true,hw.len,eB,f1]
    exact ⟨_,⟨_,rfl,RV.zero⟩,f2⟩
   ·rw [if_neg h2]
    obtain ⟨w1,BC,lX⟩:=hw.BQ (q:= .i64) (lo:=1) (by omega) (by omega)
    rw [show (1:Int).toNat=1 from rfl] at lX
    have nD:(r.1.drop 1).length≤1000000:=by rw [List.length_drop];omega
    generalize WV:r.1.getD 0 0=x0 at*
    generalize hLd:r.1.drop 1=ds at*
    have vF: ∀t:S,aM t (.dS (List.drop 0 (List.map (V.int .i64) r.1)))=some (.int .i64 x0):=fun t=>by
     rw [dW .i64 r.1 t (by omega),WV]
    obtain ⟨dv,t1,hi,f1,o1,m1,j1,g1⟩:=jw l1 (by simp [Fs.cm lX]) (c45 lX (by omega)) (by simp)
    have DS:aI [.bool false,.ah] [(0,1,.bool (decide (x0= -1))),(1,1,dv)]=some (.agg [.bool (decide (x0= -1)),dv]):=wj rfl o1.aR
    obtain ⟨t2,Hz,f2,c2,m2,j2,n2⟩:=AW (cs:= [.bool false,.ah]) (t:=43) (r:=some []) m1
    obtain ⟨t3,f3,c3,m3,j3,n3⟩:=c2.mN (r:=some (ag.aF (.ptr t1.n 0))) (w:=some (ag.aF (.ptr t1.n 0))) (l:= [.bool (decide (x0= -1)),dv]) (z:=2) m2 rfl rfl (by show (true && (aR dv && true))=true;rw [o1.aR];rfl)
    have Ac: ∀c,c∈aA dv→s1.n≤c∧c<t1.n:=fun c hc=>⟨g1 c hc,(o1.lo hc).2⟩
    have hF3:Fr s t3 dv ds.length (dk ds):=((o1.kp j2 (fun _ _=>by simp)).kp j3 (fun c hc h=>by have:=Ac c hc;simp at h;omega)).fr
    have b3:=((b1.kp j1 (by simp)).kp j2 (by simp)).kp j3 (by have:=j1.1;simp;omega)
    simp (disch:=omega) only [jU,st,si,sf,e1,e2,h1,ne_eq,not_true,hw.len,hw.ix,vF,BC,f1,DS,f2,f3]
    refine wU (vA (fl:= [_,_,_,_,_,_,_,_,_]) (b:=t1.n) 9 rfl (by decide) (by repeat' first|exact trivial|apply Qs.c0)) ?_
    obtain ⟨x4,bs4,hz4,Yb,PR,Xi⟩:=hF3.aw.agg (neg:=decide (x0= -1))
    obtain ⟨t4,f4,m4,j4,n4,r4⟩:=vT (dr:=true) (st:=false) m3 (bK.cons _ _ _ _ _ _ _ _ hz4 (.nil _)) (fun c hc=>by rw [List.append_nil] at hc;exact PR c hc) (fun h=>by cases h) (JN Yb (by omega))
    rw [List.append_nil] at j4
    have Qo: ∀c,c∈bs4→s1.n≤c∧c<t1.n:=fun c hc=>Ac c (Xi c hc)
    have c4:=c3.kp j4 (fun h=>by have:=Qo _ h;omega)
    have b4:=b3.kp j4 (fun h=>by have:=Qo _ h;omega)
    have hF4:Fr s t4 dv ds.length (dk ds):=hF3.mono (by omega) (fun c cs hr _ _=>r4 c cs hr)
    simp (disch:=omega) only [st,c3.r2,f4,ea]
    cases T7:sG (decide (x0= -1)) ds with
    |false=>
     rw [if_pos rfl]
     obtain ⟨t',Ca,FL⟩:=bad t4 0 2 m4 b4
     simp (disch:=omega) only [jU,st,gS,Bool.not_false,eB,Ca]
     exact ⟨_,⟨_,rfl,RV.zero⟩,FL⟩
    |true=>
     rw [if_neg (by simp)]
     obtain ⟨x5,OP,hz5,Yc,MX,Xj⟩:=hF4.aw.agg (neg:=decide (x0= -1))
     have FQ:=Yc.cv T7
     obtain ⟨t5,f5,m5,j5,n5,r5⟩:=vT (dr:=true) (st:=false) m4 (bK.cons _ _ _ _ _ _ _ _ hz5 (.nil _)) (fun c hc=>by rw [List.append_nil] at hc;exact MX c hc) (fun h=>by cases h) (O5 FQ)
     rw [List.append_nil] at j5
     have Qp: ∀c,c∈OP→s1.n≤c∧c<t1.n:=fun c hc=>Ac c (Xj c hc)
     have c5:=c4.kp j5 (fun h=>by have:=Qp _ h;omega)
     have b5:=b4.kp j5 (fun h=>by have:=Qp _ h;omega)
     have hF5:Fr s t5 dv ds.length (dk ds):=hF4.mono (by omega) (fun c cs hr _ _=>r5 c cs hr)
     by_cases h3:jb (fm (decide (x0= -1)) (vb ds)) 0=x0
     ·rw [if_neg (by simp [h3])]
      obtain ⟨t6,f6,c6,m6,j6,n6⟩:=b5.put (l:= [.bool (decide (x0= -1)),dv]) (z:=2) m5 rfl rfl (by show (true && (aR dv && true))=true;rw [o1.aR];rfl)
      have hF6:=hF5.kp j6 (fun c hc h=>by have:=Ac c hc;simp at h;omega)
      obtain ⟨x6,bs6,hz6,Yd,Xh,_⟩:=hF6.agg (neg:=decide (x0= -1))
      simp (disch:=omega) only [jU,st,si,gS,Bool.not_true,c4.r2,f5,hw.ix,vF,ne_eq,h3,not_true,c5.r2,f6,c6.r2]
      refine ⟨_,⟨_,rfl,Yd⟩,?_⟩
      exact th (l:= [.agg [.bool (decide (x0= -1)),dv],.int .i64 r.2.1,.int .i64 0]) (l':= [.agg [.bool (decide (x0= -1)),x6],.int .i64 r.2.1,.int .i64 0]) (bs:=bs6++([]++([]++ []))) (.cons _ _ _ _ _ _ hz6 (.cons _ _ _ _ _ _ (.one _ _ _ (.at _ rfl)) (.cons _ _ _ _ _ _ (.one _ _ _ (.at _ rfl)) .nil))) (by simp) hs m6 (fun c hc=>by simp only [List.append_nil] at hc;exact Xh c hc)
     ·rw [if_pos h3]
      obtain ⟨t',Ca,FL⟩:=bad t5 0 2 m5 b5
      simp (disch:=first|exact h3|omega) only [jU,st,si,gS,Bool.not_true,c4.r2,f5,hw.ix,vF,eB,Ca]
      exact ⟨_,⟨_,rfl,RV.zero⟩,FL⟩
  ·rw [if_pos h1]
   obtain ⟨t',f1,f2⟩:=bad s1 0 r.2.2 l1 b1
   simp (disch:=exact h1) only [jU,st,si,e1,e2,eB,f1]
   exact ⟨_,⟨_,rfl,RV.zero⟩,f2⟩) (by omega)
end Go.Vm.X
end
