/-
  A part of the proof of PromiseBytes: lemmas, in short letters, printed by a program out of the longer texts; conditions: those that each lemma names.
-/
import Derived.Test.YtalmddmghdinkaaGreatDoorW
set_option linter.all false
set_option linter.deprecated false
noncomputable section
namespace Go.Vm.X
open Go Go.Vm Go.Proofs.bt
def H6 (x:Int×Nat):Prop:=VR x.1 x.2∧x.1.natAbs<1000000000∧x.2<1000000000
def Bx.ti (b:Bx):Prop:=H6 b.1∧H6 b.2.1∧H6 b.2.2.1∧H6 b.2.2.2
theorem AE.ti {x:Int×Nat} (h:AE x):H6 x:=⟨h.1,by have:=h.2.1;omega,by have:=h.2.2;omega⟩
theorem H6.qJ {x:Int×Nat} (h:H6 x):qJ x:=by
 obtain ⟨h0,h1,h2⟩:=h
 have:=nL (x:=x.1.natAbs) (by omega)
 have:=nL (x:=x.2) (by omega)
 exact ⟨h0,by omega,by omega⟩
theorem Bx.sm.ti {b:Bx} (h:b.sm):b.ti:=⟨h.1.ti,h.2.1.ti,h.2.2.1.ti,h.2.2.2.ti⟩
theorem Bx.ti.ok {b:Bx} (h:b.ti):b.ok:=⟨h.1.qJ,h.2.1.qJ,h.2.2.1.qJ,h.2.2.2.qJ⟩
structure Pm.ti (p:Pm):Prop where
 host:fk p.host
 dU:fk p.dU
 eD:fk p.eD
 parts: ∀x,x∈p.parts→fk x
 boxes: ∀b,b∈p.boxes→b.ti
 lp:p.parts.length≤5
 lb:p.boxes.length≤4
theorem Pm.ti.ok {p:Pm} (h:p.ti):p.ok:=by
 obtain ⟨h1,h2,h3,h4,h5,h6,h7⟩:=h
 exact ⟨h1,h2,h3,h4,fun b hb=>(h5 b hb).ok,by omega,by omega⟩
theorem Pm.sm.ti {p:Pm} (h:p.sm):p.ti:=by
 have h':=h.ok
 obtain ⟨h1,h2,h3,h4,h5,h6,h7⟩:=h
 exact ⟨h'.host,h'.dU,h'.eD,h'.parts,fun b hb=>(h5 b hb).ti,by omega,h7⟩
theorem LZ {s t:S} {b t1:Nat} {sl:Bool} {cs0:List V} {p:Pm} {d x:V} (h:dX s t b cs0 t1 sl) (hl:Loc s t) (h0:s.wm=s.n) (hc:cs0.length=5) (sd:aR d=true) (sx:aR x=true)
  (hd: ∀t',Kp t t' [b]→ ∃d' bs,Fz t' d d' bs∧Is .i64 d' p.parts∧ ∀c,c∈bs→s.n≤c)
  (hx: ∀t',Kp t t' [b]→ ∃x' bs cs,Fz t' x x' bs∧Fs 16 x' p.boxes.length cs∧iQ p.boxes cs∧ ∀c,c∈bs→s.n≤c):
  bW s (RP p) (af (aq t (aB 5 (.ptr b 0) (.agg [.int .i64 p.host,.int .i64 p.dU,.int .i64 p.eD,d,x]) (aw t))) fun _ t'=>aC s t' [aD 5 t' (.ptr b 0)]):=by
 obtain ⟨t',e1,b1,l1,k1,_⟩:=h.put (l:= [.int .i64 p.host,.int .i64 p.dU,.int .i64 p.eD,d,x]) (z:=5) hl rfl hc (by show (true && (true && (true && (aR d && (aR x && true)))))=true;rw [sd,sx];rfl)
 obtain ⟨d',bs,h4,h5,h6⟩:=hd t' k1
 obtain ⟨x',FJ,cs,h2,h3,h7,h8⟩:=hx t' k1
 rw [e1,bS,b1.r5.2.2.2.2.2]
 exact ⟨_,⟨d',x',cs,rfl,h5,h3,h7⟩,zH (.cons _ _ _ _ _ _ (.at _ rfl) (.cons _ _ _ _ _ _ (.at _ rfl) (.cons _ _ _ _ _ _ (.at _ rfl) (.cons _ _ _ _ _ _ h4 (.cons _ _ _ _ _ _ h2 .nil))))) h0 l1 (fun c hc=>by
  simp only [List.nil_append,List.append_nil] at hc
  exact (List.mem_append.1 hc).elim (h6 c) (h8 c))⟩
theorem Ow.Pr {s t:S} {e b:Nat} {d:V} {l:List Int} (hd:Ow s t e 1 d l.length (dk l)) (hb:b∉aA d): ∀t',Kp t t' [b]→ ∃d' bs,Fz t' d d' bs∧Is .i64 d' l∧ ∀c,c∈bs→s.n≤c:=fun t' k1=>by
 have gj:=hd.kp k1 (fun c hc h=>hb (by simpa using (List.mem_singleton.1 h) ▸ hc))
 obtain ⟨d',bs,h4,h5,rfl⟩:=gj.fz (aS _ _)
 exact ⟨d',_,h4,h5,fun c hc=>(hd.lo hc).1⟩
theorem Ow.TT {s t:S} {e b:Nat} {x:V} {bs:List Bx} {cs:List V} (hx:Ow s t e 16 x bs.length cs) (hr:iQ bs cs) (hb:b∉aA x): ∀t',Kp t t' [b]→ ∃x' bb cs,Fz t' x x' bb∧Fs 16 x' bs.length cs∧iQ bs cs∧ ∀c,c∈bb→s.n≤c:=fun t' k1=>by
 have hx':=hx.kp k1 (fun c hc h=>hb (by simpa using (List.mem_singleton.1 h) ▸ hc))
 obtain ⟨x',bs,h4,h5,rfl⟩:=hx'.fz hr.atoms.1
 exact ⟨x',_,cs,h4,h5,hr,fun c hc=>(hx.lo hc).1⟩
theorem iQ.take {bs:List Bx} {cs:List V} (h:iQ bs cs) (n:Nat):iQ (bs.take n) (cs.take (n*16)):=by
 induction h generalizing n with
 |nil=>simp;exact .nil
 |cons b c bs cs h _ ih=>
  cases n with
  |zero=>simp;exact .nil
  |succ n=>
   rw [List.take_succ_cons,show (n+1)*16=c.length+n*16 by rw [h.atoms.2];omega,List.take_length_add_append]
   exact .cons _ _ _ _ h (ih n)
theorem iQ.set {bs:List Bx} {cs:List V} (h:iQ bs cs) {i:Nat} (hi:i<bs.length) {x:Int×Nat} {x1 x2 x3 x4:V} (hx:CR x.1 x.2 (.agg [x1,x2,x3,x4])):
  ∃b,bs[i]? =some b∧iQ (bs.set i (b.1,b.2.1,x,b.2.2.2)) (bY cs (i*16+8) [x1,x2,x3,x4]):=by
 induction h generalizing i with
 |nil=>simp at hi
 |cons b c bs cs h hs ih=>
  have hl:=h.atoms.2
  cases i with
  |zero=>
   obtain ⟨a1,a2,a3,a4,b1,b2,b3,b4,c1,c2,c3,c4,d1,d2,d3,d4,rfl,h1,h2,h3,h4⟩:=h
   exact ⟨b,rfl,iQ.cons _ [a1,a2,a3,a4,b1,b2,b3,b4,x1,x2,x3,x4,d1,d2,d3,d4] _ _ ⟨_,_,_,_,_,_,_,_,_,_,_,_,_,_,_,_,rfl,h1,h2,hx,h4⟩ hs⟩
  |succ i=>
   obtain ⟨b',h1,h2⟩:=ih (i:=i) (by simpa using hi)
   refine ⟨b',by simpa using h1,?_⟩
   have:bY (c++cs) ((i+1)*16+8) [x1,x2,x3,x4]=c++bY cs (i*16+8) [x1,x2,x3,x4]:=by
    unfold bY
    rw [show (i+1)*16+8=c.length+(i*16+8) by omega,List.take_length_add_append,Nat.add_assoc,List.drop_length_add_append,List.append_assoc]
   rw [this,List.set_cons_succ]
   exact .cons _ _ _ _ h h2
theorem dX.LN {s₀ s:S} {b t j z:Nat} {bL:Bool} {cs l:List V} {r w:Reach} (h:dX s₀ s b cs t bL) (hl:Loc s₀ s) (hz:l.length=z) (hj:j+z≤cs.length) (hx:l.all aR=true):
  ∃s',dD r w s (aB z (.ptr b j) (.agg l) (aw s))=some (.bad,s',⟨⟨r,w,s.n,s.n⟩, []⟩)∧dX s₀ s' b (bY cs j l) t bL∧Loc s₀ s'∧Kp s s' [b]∧s'.n=s.n:=by
 obtain ⟨s',e1,b1,l1,k1,n1⟩:=h.write hl (j:=j) (l:=l) (by omega) hx
 have hi:=h.hi
 have hw:=kh (s:=aw s) h.get (j:=j) (l:=l) (by omega) hx
 have hb:Nat.beq l.length z=true:=by rw [Nat.beq_eq];exact hz
 have hst:aB z (.ptr b j) (.agg l) (aw s)=some (.bad, { aw s with h:=(aw s).h.set b (.cells (bY cs j l) t bL true),wm:=min (aw s).wm b }):=by
  simp only [aB,bc,hb,hw]
 have e1:=e1 .bad
 rw [hw] at e1
 rw [hst]
 refine ⟨s',?_,b1,l1,k1,n1⟩
 simp only [aq,Option.some.injEq,Prod.mk.injEq,true_and] at e1
 unfold dD
 have hlt:Nat.blt (min (aw s).wm b) s.n=true:=by rw [Nat.blt_eq];simp only [aw];omega
 simp only [hlt]
 rw [e1]
 rfl
theorem PM.qJ {m n:Nat} {r:V} (h:PM m n r) (hm:m<1000000000) (hn:n<1000000000): ∃x:Int×Nat,H6 x∧CR x.1 x.2 r:=by
 obtain ⟨p,q,hV,hC,h1,h2⟩:=h
 exact ⟨(p,q),⟨hV,by simp only [];omega,by simp only [];omega⟩,hC⟩
theorem Ow.Q1 {s₀ s:S} {e z l:Nat} {v:V} {cs:List V} (h:Ow s₀ s e z v l cs) (hl:0<l): ∃b bL,v= .sl b 0 l l z∧dX s₀ s b cs e bL:=by
 cases h with
 |nil=>omega
 |aF b l cs bL h hl=>exact ⟨b,bL,rfl,h⟩
theorem Mh {b l c z n:Nat} (h:n≤c):gE z (.sl b 0 l c z) none (some (.int .i64 n)) none=some (.sl b 0 n c z):=by
 have e1:bound (some (.int .i64 (n:Int))) c l=some n:=by rw [eM (by omega) (by omega),Int.toNat_natCast]
 have h2:Nat.ble n c=true:=by rw [Nat.ble_eq];exact h
 simp only [gE,show bound none c c=some c from rfl,e1,show bound none n 0=some 0 from rfl,h2,Nat.zero_mul,Nat.add_zero,Nat.sub_zero]
theorem c8 {p:Pm} {a:V} (ha:RP p a) (hp:p.sm) {n m:Int} (hn:fk n) (hm:fk m):eL cx 8 [a,.int .i64 n,.int .i64 m] (fun r=> ∃p':Pm,RP p' r∧p'.ti):=fun s hs=>
 (E8 (aE (by decide))).fD 0 (by
  obtain ⟨d,e,cs,rfl,hd,he,hr⟩:=ha
  show bW s _ (F8 cx 0 (.agg [.int .i64 p.host,.int .i64 p.dU,.int .i64 p.eD,d,e]) (.int .i64 n) (.int .i64 m) s)
  unfold F8
  have yD:=hp.lp
  have Br:=hp.lb
  have hho:=hp.host
  have bX:=hp.dU
  have BB:=hp.eD
  have hP:=hp.ti
  obtain ⟨s1,e1,b1,l1,k1,n1⟩:=ca [.int .i64 p.host,.int .i64 p.dU,.int .i64 p.eD,d,e] 37 (Loc.refl hs)
  obtain ⟨s2,e2,b2,l2,k2,n2⟩:=ca [.int .i64 0,.int .i64 0,.int .i64 0,.ah,.ah] 37 l1
  have Ty:=b1.kp k2 (by simp)
  obtain ⟨x0,s3,e3,o3,l3,k3,g3⟩:=qU (e:=3) (z:=1) (len:=0) (l:= []) (c:=bz 0 [.int .i64 0]) (ps:= []) l2 rfl rfl
  obtain ⟨xp,s4,e4,o4,l4,k4,g4⟩:=CI (te:=iV) l3 o3 hd (ew (aS _ _)) rfl (by decide) (by rw [show iV.bytes=8 from rfl];omega)
  have yB:=b1.hi
  have Hz:=b2.hi
  have wS: ∀c,c∈aA xp→s2.n≤c:=fun c hc=>(g4 c hc).elim (g3 c) (fun h=>by have:=k3.1;omega)
  have OJ:=Ty.kp k3 (by simp)
  have VM:=OJ.kp k4 (fun h=>by have:=g3 _ h;omega)
  have VP:=(b2.kp k3 (by simp)).kp k4 (fun h=>by have:=g3 _ h;omega)
  obtain ⟨s5,e5,Tz,l5,k5,n5⟩:=VM.qo (j:=3) (x:=xp) l4 (by simp) o4.aR
  have o5:=o4.kp k5 (fun c hc h=>by have:=wS c hc;simp at h;omega)
  have TB:=VP.kp k5 (by simp;omega)
  obtain ⟨x1,s6,e6,o6,l6,k6,g6⟩:=qU (e:=49) (z:=16) (len:=0) (l:= []) (c:=bz 0 [.bool false,.ah,.bool false,.ah,.bool false,.ah,.bool false,.ah,.bool false,.ah,.bool false,.ah,.bool false,.ah,.bool false,.ah]) (ps:= []) l5 rfl rfl
  obtain ⟨xq,s7,e7,o7,l7,k7,g7⟩:=CI (te:=mP) l6 o6 he (ew hr.atoms.1) rfl (by decide) (by rw [show mP.bytes=256 from rfl];omega)
  have hs5:s2.n≤s5.n:=by have:=k3.1;have:=k4.1;have:=k5.1;omega
  have TA:=Tz.kp k6 (by simp)
  have VN:=TA.kp k7 (fun h=>by have:=g6 _ h;omega)
  have b2f:=(TB.kp k6 (by simp)).kp k7 (fun h=>by have:=g6 _ h;omega)
  obtain ⟨s8,e8,vy,l8,k8,n8⟩:=VN.qo (j:=4) (x:=xq) l7 (by simp) o7.aR
  have uJ: ∀c,c∈aA xq→s5.n≤c:=fun c hc=>(g7 c hc).elim (g6 c) (fun h=>by have:=k6.1;omega)
  have HM: ∀c,c∈aA xp→c<s5.n:=fun c hc=>(o5.lo hc).2
  have o8:=o7.kp k8 (fun c hc h=>by have:=uJ c hc;simp at h;omega)
  have p8:Ow s s8 3 1 xp p.parts.length (dk p.parts):=by
   have:=((o5.kp k6 (fun _ _=>by simp)).kp k7 (fun c hc h=>by have:=g6 c h;have:=HM c hc;omega)).kp k8 (fun c hc h=>by have:=wS c hc;simp at h;omega)
   rw [Nat.zero_add,List.nil_append] at this;exact this
  rw [Nat.zero_add,List.nil_append] at o8
  have OK:=b2f.kp k8 (by simp;omega)
  have f1:=bO (dr:=false) (st:=false) (c9 n 6 (by exact hn.1) (by exact hn.2) (by omega) (by omega)) (cC rfl rfl) l8.wm
  have cA: ∀j:Int,0<j→j≤1000→jK cx 9 [.int .i64 m,.int .i64 j] (.int .i64 (around m j)):=fun j h0 h1=>c9 m j (by exact hm.1) (by exact hm.2) (by omega) (by omega)
  have hrn:=ec (n:=n) (m:=6) (by omega)
  generalize around n 6=w at*
  have hne:s.n≠s1.n:=by omega
  have stop: ∀(t:S) (h f u:Int) (ps:List Int) (bs:List Bx) (xp xq:V),Loc s t→dX s t s.n [.int .i64 h,.int .i64 f,.int .i64 u,xp,xq] 37 false→dX s t s1.n [.int .i64 0,.int .i64 0,.int .i64 0,.ah,.ah] 37 false→fk h→fk f→fk u→(∀x,x∈ps→fk x)→(∀b,b∈bs→b.ti)→ps.length≤5→bs.length≤4→
    aR xp=true→aR xq=true→(∀t',Kp t t' [s1.n]→ ∃d' bb,Fz t' xp d' bb∧Is .i64 d' ps∧ ∀c,c∈bb→s.n≤c)→(∀t',Kp t t' [s1.n]→ ∃x' bb cs,Fz t' xq x' bb∧Fs 16 x' bs.length cs∧iQ bs cs∧ ∀c,c∈bb→s.n≤c)→
    bW s (fun r=> ∃p':Pm,RP p' r∧p'.ti) (ae (aD 5 t (.ptr s.n 0)) fun FY=>af (aq t (aB 5 (.ptr s1.n 0) FY (aw t))) fun _ t'=>aC s t' [aD 5 t' (.ptr s1.n 0)]):=fun t h f u ps bs xp xq hl c1 c2 r1 r2 r3 r4 r5 r6 r7 sp sq hp hq=>by
   obtain ⟨r,hr,hx⟩:=LZ (p:=⟨h,f,u,ps,bs⟩) c2 hl hs rfl sp sq hp hq
   rw [c1.r5.2.2.2.2.2,bV]
   exact ⟨r,⟨_,hr,⟨r1,r2,r3,r4,r5,r6,r7⟩⟩,hx⟩
  have Ug:s1.n∉aA xp:=fun h=>by have:=wS _ h;omega
  have Lc:s1.n∉aA xq:=fun h=>by have:=uJ _ h;omega
  simp (disch:=omega) only [jU,st,dt,e1,e2,e3,cS,OJ.r5,e4,e5,e6,TA.r5,e7,e8,f1]
  have mx: ∀ {t:S} {h f u:Int} {t':S},Kp s8 t [s.n]→Loc s t→dX s t s.n [.int .i64 h,.int .i64 f,.int .i64 u,xp,xq] 37 false→fk h→fk f→fk u→
    bW s (fun r=> ∃p':Pm,RP p' r∧p'.ti) (ae (aD 5 t (.ptr s.n 0)) fun FY=>af (aq t (aB 5 (.ptr s1.n 0) FY (aw t))) fun _ t'=>aC s t' [aD 5 t' (.ptr s1.n 0)]):=fun {t h f u _} hk hl hb r1 r2 r3=>
   stop t h f u p.parts p.boxes xp xq hl hb (OK.kp hk (by simp;omega)) r1 r2 r3 hP.parts hP.boxes (by omega) (by omega) p8.aR o8.aR
    ((p8.kp hk (fun c hc h=>by have:=wS c hc;simp at h;omega)).Pr Ug) ((o8.kp hk (fun c hc h=>by have:=uJ c hc;simp at h;omega)).TT hr Lc)
  rcases (show w=0∨w=1∨w=2∨w=3∨w=4∨w=5 by omega) with h|h|h|h|h|h
  ·subst h
   have f2:=jz (cA 4 (by omega) (by omega)) (cC rfl rfl) l8.wm
   have sF:=ec (n:=m) (m:=4) (by omega)
   obtain ⟨s9,f3,c9,l9,k9,n9⟩:=vy.xj (j:=2) (x:= .int .i64 (p.dU - 1+around m 4)) (r:=some (ag.aF (.ptr s.n 2))) (w:=some (ag.aF (.ptr s.n 2))) l8 (by simp) rfl
   simp (disch:=omega) only [jU,st,si,sf,cS,vy.r5,f2,br,f3]
   refine wU (vA (fl:= [_,_,_,_,_,_,_]) (b:=s.n) 7 rfl (by decide) (by repeat' first|exact trivial|apply Qs.c0)) ?_
   exact mx (t':=s9) k9 l9 c9 (by unfold fk;omega) (by unfold fk;omega) (by unfold fk;omega)
  ·subst h
   by_cases Bw:0<p.parts.length
   ·have f2:=jz (cA p.parts.length (by omega) (by omega)) (cC rfl rfl) l8.wm
    have sF:=ec (n:=m) (m:=p.parts.length) (by omega)
    have f3:=jz (cA 9 (by omega) (by omega)) (cC rfl rfl) l8.wm
    have HF:=ec (n:=m) (m:=9) (by omega)
    generalize around m p.parts.length=i at*
    generalize around m 9=y at*
    have hlen:=p8.len
    obtain ⟨b,bL,rfl,hb⟩:=p8.Q1 Bw
    have FP:b<s5.n:=HM b (by simp [aA])
    have qj:s2.n≤b:=wS b (by simp [aA])
    obtain ⟨s9,f4,c9,l9,k9,n9⟩:=hb.xj (j:=i.toNat) (x:= .int .i64 (y - 1)) (r:=some (ag.aF (.ptr b i.toNat))) (w:=some (ag.aF (.ptr b i.toNat))) l8 (by simp;omega) rfl
    rw [←gG] at c9
    have mM:=ma (b:=b) (o:=0) (l:=p.parts.length) (c:=p.parts.length) (z':=1) (z:=1) .i64 (i:=i) (by omega) (by omega)
    rw [Nat.zero_add,Nat.mul_one] at mM
    simp (disch:=omega) only [jU,st,si,sf,cS,vy.r5,hlen,f2,f3,br,mM,f4]
    refine wU (vA (fl:= [_,_,_,_,_,_,_,_,_,_,_]) (b:=b) 11 rfl (by decide) (by repeat' first|exact trivial|apply Qs.c0)) ?_
    have p9:Ow s s9 3 1 (.sl b 0 (p.parts.set i.toNat (y - 1)).length (p.parts.set i.toNat (y - 1)).length 1) (p.parts.set i.toNat (y - 1)).length (dk (p.parts.set i.toNat (y - 1))):= .aF b _ _ bL c9 (by simp)
    rw [List.length_set] at p9
    refine stop s9 p.host p.dU p.eD (p.parts.set i.toNat (y - 1)) p.boxes _ xq l9 (vy.kp k9 (by simp;omega)) (OK.kp k9 (by simp;omega)) hP.host hP.dU hP.eD (fun x hx=> ?_) hP.boxes (by rw [List.length_set];omega) (by omega) rfl o8.aR
     ((by rw [List.length_set];exact p9:Ow s s9 3 1 (.sl b 0 p.parts.length p.parts.length 1) (p.parts.set i.toNat (y - 1)).length _).Pr Ug) ((o8.kp k9 (fun c hc h=>by have:=uJ c hc;simp at h;omega)).TT hr Lc)
    rcases List.mem_or_eq_of_mem_set hx with h|rfl
    ·exact hP.parts x h
    ·unfold fk;omega
   ·simp (disch:=omega) only [jU,st,si,cS,vy.r5,p8.len]
    have h:=mx (t':=s8) ⟨Nat.le_refl _,fun _ _ _=>rfl⟩ l8 vy hP.host hP.dU hP.eD
    rw [vy.r5.2.2.2.2.2,bV] at h
    exact h
  ·subst h
   have f2:=jz (cA 20 (by omega) (by omega)) (cC rfl rfl) l8.wm
   have sF:=ec (n:=m) (m:=20) (by omega)
   generalize around m 20=y at*
   obtain ⟨x3,s9,hi9,f3,o9,l9,k9,g9⟩:=vR (e:=3) (z:=1) (len:=1) (l:= [.int .i64 y]) (c:=bz 1 [.int .i64 0]) (ps:= [(0,1,.int .i64 y)]) (r:=some []) l8 rfl rfl
   obtain ⟨Ji,s10,w',ab6,f4,o10,l10,Ux,g10,hw⟩:=vO (te:=iV) (r:=some ([xp,x3].flatMap ag.aF)) (w:=some (ag.aF xp)) l9 (p8.kp k9 (fun _ _=>by simp)) o9 rfl rfl (by decide) (by rw [show iV.bytes=8 from rfl];omega)
   have hk9:=k9.1
   have ab9:=Ux.1
   have BD: ∀c,c∈aA Ji→s2.n≤c:=fun c hc=>(g10 c hc).elim (wS c) (fun h=>by have:=k8.1;have:=k7.1;have:=k6.1;omega)
   have nn: ∀c,c≤s1.n→c∉aA xp:=fun c hc h=>by have:=wS _ h;omega
   have c10:=(vy.kp k9 (by simp)).kp Ux (nn _ (by omega))
   obtain ⟨RM,f5,c11,l11,Y9,n11⟩:=c10.xj (j:=3) (x:=Ji) (r:=some (ag.aF (.ptr s.n 3))) (w:=some (ag.aF (.ptr s.n 3))) l10 (by simp) o10.aR
   simp (disch:=omega) only [jU,st,si,sf,cS,vy.r5,f2,f3,f4,f5]
   have o11:=o10.kp Y9 (fun c hc h=>by have:=BD c hc;simp at h;omega)
   have fg:(p.parts++ [y]).length=p.parts.length+1:=by simp
   refine wU (Iy [] 8 rfl ?_) ?_
   ·refine ⟨⟨.inl rfl,fun c h=>h⟩,⟨.inl rfl,fun c h=>h⟩,⟨.inl rfl,fun c h=>h⟩,⟨.inl rfl,fun c h=>h⟩,⟨.inl rfl,fun c h=>h⟩,⟨?_,fun c h=>h⟩,⟨.inl rfl,fun c h=>h⟩,⟨.inr ⟨_,rfl,fun b _ h=>(by cases h),by decide⟩,fun c h=>h⟩,trivial⟩
    rcases hw with rfl|⟨rfl,_⟩
    ·exact .inl rfl
    ·exact .inr ⟨_,rfl,fun b _ h=>(by cases h),by decide⟩
   ·refine stop RM p.host p.dU p.eD (p.parts++ [y]) p.boxes Ji xq l11 c11 (((OK.kp k9 (by simp)).kp Ux (nn _ (by omega))).kp Y9 (by simp;omega)) hP.host hP.dU hP.eD (fun x hx=> ?_) hP.boxes (by omega) (by omega) o11.aR o8.aR
     ((by rw [fg];simpa using o11:Ow s RM 3 1 Ji (p.parts++ [y]).length (dk (p.parts++ [y]))).Pr (fun h=>by have:=BD _ h;omega))
     ((((o8.kp k9 (fun _ _=>by simp)).kp Ux (fun c hc h=>by have:=uJ c hc;have:=HM c h;omega)).kp Y9 (fun c hc h=>by have:=uJ c hc;simp at h;omega)).TT hr Lc)
    rcases List.mem_append.1 hx with h|h
    ·exact hP.parts x h
    ·rw [List.mem_singleton] at h;subst h;unfold fk;omega
  ·subst h
   have hlen:=o8.len
   obtain ⟨F0,uI,Lg,hfz⟩: ∃F0,gE 16 xq none (some (.int .i64 ((p.boxes.length:Int) / 2))) none=some F0∧aR F0=true∧ ∀t,Kp s8 t [s.n]→ ∀t',Kp t t' [s1.n]→ ∃x' bb cs,Fz t' F0 x' bb∧Fs 16 x' (p.boxes.take (p.boxes.length / 2)).length cs∧iQ (p.boxes.take (p.boxes.length / 2)) cs∧ ∀c,c∈bb→s.n≤c:=by
    by_cases hb:0<p.boxes.length
    ·obtain ⟨b,bL,rfl,hB⟩:=o8.Q1 hb
     have Xp:s5.n≤b:=uJ b (by simp [aA])
     refine ⟨_,by rw [show ((p.boxes.length:Int) / 2)=((p.boxes.length / 2:Nat):Int) by omega];exact Mh (by omega),rfl,fun t kt t' UA=> ?_⟩
     have Pz:=(hB.kp kt (by simp;omega)).kp UA (by simp;omega)
     have hrt:=hr.take (p.boxes.length / 2)
     have hcl:=hr.atoms.2
     have IV:(p.boxes.take (p.boxes.length / 2)).length=p.boxes.length / 2:=by rw [List.length_take];omega
     refine ⟨_,_,_,.sl b 0 (p.boxes.length / 2) p.boxes.length 16 cs (cs.take (p.boxes.length / 2*16)) _ bL true Pz.get (by omega) (by omega) (by rw [List.drop_zero]) hrt.atoms.1,by rw [IV];exact .mk _ _ (by rw [List.length_take];omega),hrt,fun c hc=> ?_⟩
     simp at hc;omega
    ·have Xg:p.boxes= []:=List.eq_nil_of_length_eq_zero (by omega)
     have hcl:=hr.atoms.2
     rw [Xg] at o8 hr hcl ⊢
     have:cs= []:=List.eq_nil_of_length_eq_zero (by simpa using hcl)
     subst this
     cases o8 with
     |nil=>exact ⟨.ah,Jc _ _,rfl,fun t kt t' UA=>⟨.ah, [], [],.at _ rfl,.nil,.nil,fun c h=>by cases h⟩⟩
     |aF b _ _ bL h hl=>
      have Xp:s5.n≤b:=uJ b (by simp [aA])
      refine ⟨_,Mh (n:=0) (by simp),rfl,fun t kt t' UA=> ?_⟩
      have Pz:=(h.kp kt (by simp;omega)).kp UA (by simp;omega)
      exact ⟨_,_, [],.sl b 0 0 0 16 [] [] _ bL true Pz.get (by omega) (by simp) (by simp) rfl,.mk _ _ rfl,.nil,fun c hc=>by simp at hc;omega⟩
   obtain ⟨s9,f3,c9,l9,k9,n9⟩:=vy.qo (j:=4) (x:=F0) l8 (by simp) Lg
   simp (disch:=omega) only [jU,st,si,cS,vy.r5,hlen,br,uI,f3]
   exact stop s9 p.host p.dU p.eD p.parts (p.boxes.take (p.boxes.length / 2)) xp F0 l9 c9 (OK.kp k9 (by simp;omega)) hP.host hP.dU hP.eD hP.parts (fun b hb=>hP.boxes b (List.mem_of_mem_take hb)) (by omega) (by rw [List.length_take];omega) p8.aR Lg
    ((p8.kp k9 (fun c hc h=>by have:=wS c hc;simp at h;omega)).Pr Ug) (hfz s9 k9)
  ·subst h
   by_cases z9:0<p.boxes.length
   ·have f2:=bO (dr:=false) (st:=true) (cA p.boxes.length (by omega) (by omega)) (cC rfl rfl) l8.wm
    have sF:=ec (n:=m) (m:=p.boxes.length) (by omega)
    have f3:=jz (cA 5 (by omega) (by omega)) (cC rfl rfl) l8.wm
    have HF:=ec (n:=m) (m:=5) (by omega)
    generalize around m p.boxes.length=i at*
    generalize around m 5=y at*
    have hlen:=o8.len
    obtain ⟨b,bL,rfl,hb⟩:=o8.Q1 z9
    have Xp:s5.n≤b:=uJ b (by simp [aA])
    obtain ⟨z,hz,f4⟩:=dM (c28 (p:=y) (q:=2) (by unfold fk;omega) (by unfold fk;omega)) (cC rfl rfl) l8.wm
    obtain ⟨B,hBi,qh⟩:=hr.at (i:=i.toNat) (by omega)
    obtain ⟨u1,u2,u3,u4,u5,u6,u7,u8,u9,u10,u11,u12,u13,u14,u15,u16,hcell,q1,q2,q3,q4⟩:=qh
    have hcl:=hr.atoms.2
    have vF:aD 4 s8 (.ptr b (i.toNat*16+8))=some (.agg [u9,u10,u11,u12]):=by
     rw [eV hb.rd (by omega)]
     have:(cs.drop (i.toNat*16+8)).take 4=(((cs.drop (i.toNat*16)).take 16).drop 8).take 4:=by rw [List.drop_take,List.drop_drop,List.take_take];congr 1
     rw [this,hcell];rfl
    have M6:=hp.boxes B (List.mem_of_getElem? hBi)
    obtain ⟨pz,qz,vz,cz,z1,z2⟩:=hz
    have ach:=nL (x:=B.2.2.1.1.natAbs) (by have:=M6.2.2.1.2.1;omega)
    have aci:=nL (x:=B.2.2.1.2) (by have:=M6.2.2.1.2.2;omega)
    have acj:=nL (x:=pz.natAbs) (by omega)
    have ack:=nL (x:=qz) (by omega)
    obtain ⟨w,hw,f5⟩:=dM (c33 q3 cz M6.2.2.1.1.1 vz.1 ⟨by omega,by omega⟩ ⟨by omega,by omega⟩) (cC q3.az cz.az) l8.wm
    have i1:B.2.2.1.1.natAbs*qz≤100000*2:=Nat.mul_le_mul M6.2.2.1.2.1 (by omega)
    have i2:pz.natAbs*B.2.2.1.2≤5*1000:=Nat.mul_le_mul (by omega) M6.2.2.1.2.2
    have i3:B.2.2.1.2*qz≤1000*2:=Nat.mul_le_mul M6.2.2.1.2.2 (by omega)
    obtain ⟨X',hX',cX⟩:=hw.qJ (by omega) (by omega)
    obtain ⟨w1,w2,w3,w4,rfl,Uq,ko⟩:=hw.cells
    obtain ⟨B',Pz,jD⟩:=hr.set (i:=i.toNat) (by omega) cX
    obtain ⟨s9,f6,c9,l9,k9,n9⟩:=hb.LN (j:=i.toNat*16+8) (z:=4) (l:= [w1,w2,w3,w4]) (r:=some (ag.aF (.ptr b (i.toNat*16+8)))) (w:=some (ag.aF (.ptr b (i.toNat*16+8)))) l8 rfl (by omega) ko
    have mM:=ma (b:=b) (o:=0) (l:=p.boxes.length) (c:=p.boxes.length) (z':=16) (z:=16) .i64 (i:=i) (by omega) (by omega)
    rw [Nat.zero_add] at mM
    have hf8:aJ 8 (.ptr b (i.toNat*16))=some (.ptr b (i.toNat*16+8)):=rfl
    have hf0:aJ 0 (.ptr b (i.toNat*16+8))=some (.ptr b (i.toNat*16+8)):=rfl
    simp (disch:=omega) only [jU,st,si,sf,cS,vy.r5,hlen,f2,mM,hf8,hf0,vF,f3,f4,f5,f6]
    refine wU (vA (fl:= [_,_,_,_,_,_,_,_,_,_,_,_,_,_,_,_,_]) (b:=b) 17 rfl (by decide) (by repeat' first|exact trivial|apply Qs.c0)) ?_
    have o9:Ow s s9 49 16 (.sl b 0 p.boxes.length p.boxes.length 16) (p.boxes.set i.toNat (B'.1,B'.2.1,X',B'.2.2.2)).length (bY cs (i.toNat*16+8) [w1,w2,w3,w4]):=by
     rw [List.length_set];exact .aF b _ _ bL c9 (by rw [jD.atoms.2,List.length_set])
    have Lf:=hP.boxes B' (List.mem_of_getElem? Pz)
    refine stop s9 p.host p.dU p.eD p.parts (p.boxes.set i.toNat (B'.1,B'.2.1,X',B'.2.2.2)) xp _ l9 (vy.kp k9 (by simp;omega)) (OK.kp k9 (by simp;omega)) hP.host hP.dU hP.eD hP.parts (fun x hx=> ?_) (by omega) (by rw [List.length_set];omega) p8.aR rfl
     ((p8.kp k9 (fun c hc h=>by have:=HM c hc;simp at h;omega)).Pr Ug) (o9.TT jD Lc)
    rcases List.mem_or_eq_of_mem_set hx with h|rfl
    ·exact hP.boxes x h
    ·exact ⟨Lf.1,Lf.2.1,hX',Lf.2.2.2⟩
   ·simp (disch:=omega) only [jU,st,si,cS,vy.r5,o8.len]
    have h:=mx (t':=s8) ⟨Nat.le_refl _,fun _ _ _=>rfl⟩ l8 vy hP.host hP.dU hP.eD
    rw [vy.r5.2.2.2.2.2,bV] at h
    exact h
  ·subst h
   have f2:=jz (cA 5 (by omega) (by omega)) (cC rfl rfl) l8.wm
   have sF:=ec (n:=m) (m:=5) (by omega)
   obtain ⟨s9,f3,c9,l9,k9,n9⟩:=vy.xj (j:=1) (x:= .int .i64 (p.dU - around m 5)) (r:=some (ag.aF (.ptr s.n 1))) (w:=some (ag.aF (.ptr s.n 1))) l8 (by simp) rfl
   simp (disch:=omega) only [jU,st,si,sf,cS,vy.r5,f2,br,f3]
   refine wU (vA (fl:= [_,_,_,_,_,_]) (b:=s.n) 6 rfl (by decide) (by repeat' first|exact trivial|apply Qs.c0)) ?_
   exact mx (t':=s9) k9 l9 c9 (by unfold fk;omega) (by unfold fk;omega) (by unfold fk;omega)) (by omega)
def ed (x:Int×Nat):List Int:=oZ x.1 x.2
def gX (b:Bx):List Int:=ed b.1++(ed b.2.1++(ed b.2.2.1++ed b.2.2.2))
def jH (p:Pm) (i:Nat):List Int:=(eC [p.host,p.dU,p.eD]++eC p.parts)++(p.boxes.take i).flatMap gX
def dz (p:Pm):List Int:=(eC [p.host,p.dU,p.eD]++eC p.parts)++p.boxes.flatMap gX
theorem xh {p:Pm} {i:Nat} (h:p.boxes.length≤i):jH p i=dz p:=by unfold jH dz;rw [List.take_of_length_le h]
theorem tL {p:Pm} {i:Nat} {b:Bx} (h:p.boxes[i]? =some b):jH p (i+1)=jH p i++gX b:=by
 unfold jH
 rw [jc h,List.flatMap_append,List.flatMap_cons,List.flatMap_nil,List.append_nil,List.append_assoc _ _ (gX b)]
theorem qK (p:Pm) (i:Nat):(jH p i).length≤(dz p).length:=by
 unfold jH dz
 rw [List.length_append,List.length_append]
 have:p.boxes.flatMap gX=(p.boxes.take i).flatMap gX++(p.boxes.drop i).flatMap gX:=by rw [←List.flatMap_append,List.take_append_drop]
 rw [this]
 simp only [List.length_append]
 omega
inductive MH (s₀ s:S):List V→List (List Int)→Prop
 |nil:MH s₀ s [] []
 |cons (x:V) (a:List Int) (xs:List V) (ls:List (List Int)) (h:Fr s₀ s x a.length (Bs a)) (hs:MH s₀ s xs ls):MH s₀ s (x::xs) (a::ls)
theorem MH.fz {s₀ s:S} {xs:List V} {ls:List (List Int)} (h:MH s₀ s xs ls): ∃zk bs,zn s xs zk bs∧zk.length=xs.length∧UM zk ls∧ ∀c,c∈bs→s₀.n≤c:=by
 induction h with
 |nil=>exact ⟨[], [],.nil,rfl,⟨rfl,fun i hi=>absurd hi (Nat.not_lt_zero _)⟩,fun c h=>by cases h⟩
 |cons x a xs ls h _ ih=>
  obtain ⟨zk,bs,h1,h2,h3,h4⟩:=ih
  obtain ⟨x',b,g1,g2,g3,_⟩:=h.fz (aS _ _)
  refine ⟨x'::zk,b++bs,.cons _ _ _ _ _ _ g1 h1,by simp [h2],⟨by simp [h3.1],fun i hi=> ?_⟩,fun c hc=>(List.mem_append.1 hc).elim (g3 c) (h4 c)⟩
  cases i with
  |zero=>exact g2
  |succ i=>
   rw [List.getD_cons_succ,List.getD_cons_succ]
   exact h3.2 i (by simpa using hi)
theorem HU {s₀ s:S} {e n:Nat} {v:V} {xs:List V} {ls:List (List Int)} (hv:Ow s₀ s e 1 v n xs) (hn:0<n) (hx:MH s₀ s xs ls):
  ∃zk bs,xV s v (.iL zk n) bs∧zk.length=n∧UM zk ls∧ ∀c,c∈bs→s₀.n≤c:=by
 obtain ⟨zk,bs,h1,h2,h3,h4⟩:=hx.fz
 cases hv with
 |nil=>omega
 |aF b0 l cs bL h hl=>
  refine ⟨zk,_,.nest b0 0 n n 1 xs xs zk e bL true bs h.get (Nat.le_refl _) (by omega) (by rw [List.drop_zero,List.take_of_length_le (by omega)]) h1,by omega,h3,fun c hc=> ?_⟩
  rcases qT hc with rfl|hc
  ·exact h.lo
  ·exact h4 c hc
theorem JG {bs:List Bx} {cs:List V} (h:iQ bs cs) {i:Nat} (hi:i<bs.length): ∃b a1 a2 a3 a4 q1 q2 q3,bs[i]? =some b∧
  CR b.1.1 b.1.2 a1∧CR b.2.1.1 b.2.1.2 a2∧CR b.2.2.1.1 b.2.2.1.2 a3∧CR b.2.2.2.1 b.2.2.2.2 a4∧
  aJ 0 (.dS (cs.drop (i*16)))=some (.dS (cs.drop (i*16)))∧(∀s,aD 4 s (.dS (cs.drop (i*16)))=some a1)∧aJ 4 (.dS (cs.drop (i*16)))=some q1∧(∀s,aD 4 s q1=some a2)∧
  aJ 8 (.dS (cs.drop (i*16)))=some q2∧aJ 0 q2=some q2∧(∀s,aD 4 s q2=some a3)∧aJ 4 q2=some q3∧ ∀s,aD 4 s q3=some a4:=by
 obtain ⟨b,h1,h2⟩:=h.at hi
 have hl:=h.atoms.2
 have hd:16≤(cs.drop (i*16)).length:=by rw [List.length_drop];omega
 generalize cs.drop (i*16)=D at*
 obtain ⟨a1,a2,a3,a4,b1,b2,b3,b4,c1,c2,c3,c4,d1,d2,d3,d4,he,r1,r2,r3,r4⟩:=h2
 have tk: ∀k,k+4≤16→(D.drop k).take 4=((D.take 16).drop k).take 4:=fun k hk=>by rw [List.drop_take,List.take_take,Nat.min_eq_left (by omega)]
 refine ⟨b,_,_,_,_,.dS (D.drop 4),.dS (D.drop 8),.dS ((D.drop 8).drop 4),h1,r1,r2,r3,r4,?_,fun s=> ?_,yn (by omega),fun s=> ?_,yn (by omega),?_,fun s=> ?_,yn (by rw [List.length_drop];omega),fun s=> ?_⟩
 ·rw [yn (by omega),List.drop_zero]
 ·have:=tk 0 (by omega)
  rw [List.drop_zero,List.drop_zero] at this
  rw [rF s (by omega),this,he];rfl
 ·rw [rF s (by rw [List.length_drop];omega),tk 4 (by omega),he];rfl
 ·rw [yn (by rw [List.length_drop];omega),List.drop_zero]
 ·rw [rF s (by rw [List.length_drop];omega),tk 8 (by omega),he];rfl
 ·rw [rF s (by rw [List.length_drop,List.length_drop];omega),List.drop_drop,tk 12 (by omega),he];rfl
theorem CR.cm {p:Int} {q:Nat} {r:V} (h:CR p q r):X.cm r=true:=by
 have:=h.az
 obtain ⟨d,e,rfl,hd,he⟩:=h
 exact this
theorem GM {s t:S} {acc a:V} {l:List Int} {x:Int×Nat} (hlt:Loc s t) (ho:Ow s t 5 1 acc l.length (Bs l)) (C:CR x.1 x.2 a) (O:qJ x) (hn:(l++ed x).length≤1000000000):
  ∃z t1 JC t2,au cx false true (.fn 60 [] []) [a] t=some (z,t1)∧aq t1 (bT iE 5 acc z (aw t1))=some (JC,t2)∧Ow s t2 5 1 JC (l++ed x).length (Bs (l++ed x))∧Loc s t2∧Kp t t2 (aA acc)∧ ∀c,c∈aA JC→c∈aA acc∨t.n≤c:=by
 obtain ⟨z1,t1,c1,u1,m1,j1,v1⟩:=gO (dr:=false) (st:=true) hlt (by simp [C.cm]) (c60 C ⟨by have:=O.2.1;omega,by have:=O.2.2;omega⟩) (cY _)
 have K5:=ho.kp j1 (fun _ _=>by simp)
 rw [List.length_append] at hn ⊢
 obtain ⟨w1,ZX,d1,p1,m1',j1',v1'⟩:=vN (te:=iE) m1 K5 u1 (dZ _ _) rfl (by decide) (by rw [dO];unfold ed at hn;omega)
 refine ⟨z1,t1,w1,ZX,c1,d1,by rw [show Bs (l++ed x)=Bs l++Bs (ed x) from List.map_append];exact p1,m1',⟨by have:=j1.1;have:=j1'.1;omega,fun c hc hx=> ?_⟩,fun c hc=>(v1' c hc).imp id (fun h=>by have:=j1.1;omega)⟩
 rw [j1'.2 c (by have:=j1.1;omega) hx,j1.2 c hc (by simp)]
theorem c24 {p:Pm} {a:V} (ha:RP p a) (hp:p.ok) (hL:(dz p).length≤1000000000):xM cx 24 [a] 5 1 (if p.formed then dz p else []).length (Bs (if p.formed then dz p else [])):=fun s hs=>
 (E24 (aE (by decide))).runN (p.boxes.length+1) (by
  have yD:=hp.lp
  have Br:=hp.lb
  have MV:=ha.az
  have lj:=ha
  obtain ⟨d,e,cs,rfl,hd,he,hr⟩:=ha
  show fE s 5 1 _ _ (Vz cx _ (.agg [.int .i64 p.host,.int .i64 p.dU,.int .i64 p.eD,d,e]) s)
  unfold Vz
  generalize hF:p.boxes.length+1=F
  obtain ⟨s1,e1,b1,l1,k1,n1⟩:=ca [.int .i64 p.host,.int .i64 p.dU,.int .i64 p.eD,d,e] 37 (Loc.refl hs)
  have yB:=b1.hi
  have f1:=bO (dr:=false) (st:=false) (c18 lj yD Br) (cU MV) l1.wm
  by_cases hf:p.formed=true
  ·rw [if_pos hf]
   rw [hf] at f1
   have hfl:aI (bz 3 [.int .i64 0]) [(0,1,.int .i64 p.host),(1,1,.int .i64 p.dU),(2,1,.int .i64 p.eD)]=some (.agg (dk [p.host,p.dU,p.eD])):=rfl
   obtain ⟨x0,s2,i2,f2,o2,l2,k2,g2⟩:=vR (e:=3) (z:=1) (len:=3) (r:=some []) l1 hfl rfl
   have b2:=b1.kp k2 (by simp)
   obtain ⟨x0',s2',DG,Ao⟩:=B9 [] [] o2 (aS _ _) rfl rfl
   rw [List.nil_append,List.nil_append] at DG
   have r3: ∀x,x∈ [p.host,p.dU,p.eD]→fk x:=fun x hx=>by
    simp only [List.mem_cons,List.not_mem_nil,or_false] at hx
    rcases hx with rfl|rfl|rfl
    ·exact hp.host
    ·exact hp.dU
    ·exact hp.eD
   obtain ⟨x3,s3,i3,f3,o3,l3,k3,g3,_⟩:=lN l2 DG (fun c hc=>(o2.lo hc).1) (Wn (v:=x0') (l:= [p.host,p.dU,p.eD]) Ao r3 (by simp) _) (cY _)
   have b3:=b2.kp k3 (fun h=>by have:=g2 _ h;omega)
   obtain ⟨x4,s4,i4,f4,o4,l4,k4,g4⟩:=jw l3 (args:= [d]) (by rw [List.all_cons,Fs.cm hd];rfl) (Wn hd hp.parts (by omega)) (cY _)
   have b4:=b3.kp k4 (by simp)
   have LH:=o3.kp k4 (fun _ _=>by simp)
   have Ex:=qK p 0
   unfold jH at Ex
   rw [List.take_zero,List.flatMap_nil,List.append_nil,List.length_append] at Ex
   obtain ⟨x5,s5,w5,i5,f5,o5,l5,k5,g5,WD⟩:=vO (te:=iE) (r:=some ([x3,x4].flatMap ag.aF)) (w:=some (ag.aF x3)) l4 LH o4 (dZ _ _) rfl (by decide) (by rw [dO];omega)
   have hk2:=k2.1
   have b5:=b4.kp k5 (fun h=>by have:=g3 _ h;omega)
   simp (disch:=omega) only [jN,st,sf,dt,e1,cS,b1.r5,f1,ea,Bool.not_true,f2,b2.r5,f3,b3.r5,f4,f5]
   refine wN (Iy (aA x0) 13 rfl ?_) ?_
   ·refine .c0 (.c0 (.c0 (.c0 (.c0 (.c0 (.c0 (.cz (fun c h=>h) (.c0 (.c0 (.c0 (.cw ?_ (by decide) (.c0 trivial))))))))))))
    rcases WD with h|⟨h,h'⟩
    ·exact .inl h
    ·refine .inr ⟨_,h,fun b hb qj=> ?_⟩
     rw [o3.tb] at hb
     have:=g3 _ hb
     have:=(o2.lo qj).2
     omega
   ·simp (disch:=omega) only [jN,st,si,cS]
    have hx5: ∀c,c∈aA x5→s1.n≤c:=fun c hc=>(g5 c hc).elim (fun h=>by have:=g3 c h;omega) (fun h=>by have:=k3.1;have:=k4.1;omega)
    refine aP (fE s 5 1 _ _) (fun k vs t=> ∃(i:Nat) (x:V),vs= [.int .i64 i,.ptr s.n 0,x]∧Loc s t∧dX s t s.n [.int .i64 p.host,.int .i64 p.dU,.int .i64 p.eD,d,e] 37 false∧Ow s t 5 1 x (jH p i).length (Bs (jH p i))∧(∀c,c∈aA x→s1.n≤c)∧i+k=p.boxes.length) ?_ _ p.boxes.length _ _
     ⟨0,x5,rfl,l5,b5,by unfold jH;rw [List.take_zero,List.flatMap_nil,List.append_nil,List.length_append];simpa using o5,hx5,by omega⟩ (by omega)
    rintro ih k _ t ⟨i,x,rfl,hlt,hb,ho,hx,hk⟩ eZ
    by_cases hi:i<p.boxes.length
    ·obtain ⟨b,a1,a2,a3,a4,q1,q2,q3,Bo,C1,C2,C3,C4,y1,y2,y3,y4,y5,y6,y7,y8,y9⟩:=JG hr hi
     have mM:=he.ix .i64 (i:=(i:Int)) (by omega) (by omega)
     rw [Int.toNat_natCast] at mM
     obtain ⟨O1,O2,O3,O4⟩:=hp.boxes b (List.mem_of_getElem? Bo)
     have hst:=tL Bo
     have hle:=qK p (i+1)
     rw [hst,List.length_append] at hle
     have hlB:(gX b).length=(ed b.1).length+((ed b.2.1).length+((ed b.2.2.1).length+(ed b.2.2.2).length)):=by unfold gX;simp only [List.length_append]
     have hE:jH p i++gX b=(((jH p i++ed b.1)++ed b.2.1)++ed b.2.2.1)++ed b.2.2.2:=by unfold gX;simp only [List.append_assoc]
     have FO:=hb.hi
     obtain ⟨z1,t1,w1,u1,c1,d1,o1,m1,j1,v1⟩:=GM hlt ho C1 O1 (by rw [List.length_append];omega)
     have M9: ∀c,c∈aA w1→s1.n≤c:=fun c hc=>(v1 c hc).elim (hx c) (fun h=>by omega)
     have uA:=hb.kp j1 (fun h=>by have:=hx _ h;omega)
     obtain ⟨z2,t2,w2,u2,c2,d2,o2,m2,j2,v2⟩:=GM m1 o1 C2 O2 (by rw [List.length_append,List.length_append];omega)
     have Ao: ∀c,c∈aA w2→s1.n≤c:=fun c hc=>(v2 c hc).elim (M9 c) (fun h=>by have:=j1.1;omega)
     have qj:=uA.kp j2 (fun h=>by have:=M9 _ h;omega)
     obtain ⟨z3,t3,w3,u3,c3,d3,o3,m3,j3,v3⟩:=GM m2 o2 C3 O3 (by rw [List.length_append,List.length_append,List.length_append];omega)
     have Us: ∀c,c∈aA w3→s1.n≤c:=fun c hc=>(v3 c hc).elim (Ao c) (fun h=>by have:=j1.1;have:=j2.1;omega)
     have z7:=qj.kp j3 (fun h=>by have:=Ao _ h;omega)
     obtain ⟨z4,t4,w4,u4,c4,d4,o4,m4,j4,v4⟩:=GM m3 o3 C4 O4 (by rw [List.length_append,List.length_append,List.length_append,List.length_append];omega)
     have Yt: ∀c,c∈aA w4→s1.n≤c:=fun c hc=>(v4 c hc).elim (Us c) (fun h=>by have:=j1.1;have:=j2.1;have:=j3.1;omega)
     have PR:=z7.kp j4 (fun h=>by have:=Us _ h;omega)
     rw [←hE,←hst] at o4
     simp (disch:=omega) only [jN,st,si,cS,hb.r5,he.len,mM,y1,y2,c1,d1,uA.r5,y3,y4,c2,d2,qj.r5,y5,y6,y7,c3,d3,z7.r5,y8,y9,c4,d4,br]
     exact eZ (k - 1) _ _ (by omega) ⟨i+1,w4,rfl,m4,PR,o4,Yt,by omega⟩
    ·simp (disch:=omega) only [jN,st,si,cS,hb.r5,he.len]
     rw [xh (by omega)] at ho
     exact eP hs hlt ho (aS _ _)
  ·have DR:p.formed=false:=by simpa using hf
   rw [DR] at f1 ⊢
   simp (disch:=omega) only [jN,st,sf,dt,e1,cS,b1.r5,f1,ea,Bool.not_false]
   rw [if_neg (by simp)]
   exact .inl ⟨rfl,rfl,aO rfl (by omega) l1.fx⟩) (by omega)
theorem Pp {a b c d e:V} (ha:aR a=true) (hb:aR b=true) (hc:aR c=true) (hd:aR d=true) (he:aR e=true):aI (bz 5 [.ah]) [(0,1,a),(1,1,b),(2,1,c),(3,1,d),(4,1,e)]=some (.agg [a,b,c,d,e]):=by
 rw [ga ha _ _ (by decide),ga hb _ _ (by simp [bz]),ga hc _ _ (by simp [bz]),ga hd _ _ (by simp [bz]),ga he _ _ (by simp [bz])];rfl
theorem Wf {p:Pm} {a:V} (ha:RP p a) (hp:p.ok) (hL:(dz p).length≤1000000000):xM cx 22 [a] 5 1 (if p.formed then dz p else []).length (Bs (if p.formed then dz p else [])):=fun s hs=>
 (E22 (aE (by decide))).runN (p.boxes.length+1) (by
  have yD:=hp.lp
  have Br:=hp.lb
  have MV:=ha.az
  have lj:=ha
  obtain ⟨d,e,cs,rfl,hd,he,hr⟩:=ha
  show fE s 5 1 _ _ (Vy cx _ (.agg [.int .i64 p.host,.int .i64 p.dU,.int .i64 p.eD,d,e]) s)
  unfold Vy
  generalize hF:p.boxes.length+1=F
  obtain ⟨s1,e1,b1,l1,k1,n1⟩:=ca [.int .i64 p.host,.int .i64 p.dU,.int .i64 p.eD,d,e] 55 (Loc.refl hs)
  have yB:=b1.hi
  have f1:=bO (dr:=false) (st:=false) (c41 lj hp) (cU MV) l1.wm
  by_cases hf:p.formed=true
  ·rw [if_pos hf]
   rw [hf] at f1
   have hfl:aI (bz 3 [.int .i64 0]) [(0,1,.int .i64 p.host),(1,1,.int .i64 p.dU),(2,1,.int .i64 p.eD)]=some (.agg (dk [p.host,p.dU,p.eD])):=rfl
   obtain ⟨x0,s2,i2,f2,o2,l2,k2,g2⟩:=vR (e:=3) (z:=1) (len:=3) (r:=some []) l1 hfl rfl
   have b2:=b1.kp k2 (by simp)
   obtain ⟨x0',s2',DG,Ao⟩:=B9 [] [] o2 (aS _ _) rfl rfl
   rw [List.nil_append,List.nil_append] at DG
   have r3: ∀x,x∈ [p.host,p.dU,p.eD]→fk x:=fun x hx=>by
    simp only [List.mem_cons,List.not_mem_nil,or_false] at hx
    rcases hx with rfl|rfl|rfl
    ·exact hp.host
    ·exact hp.dU
    ·exact hp.eD
   obtain ⟨x3,s3,i3,f3,o3,l3,k3,g3,_⟩:=lN l2 DG (fun c hc=>(o2.lo hc).1) (Wm (v:=x0') (l:= [p.host,p.dU,p.eD]) Ao r3 (by simp) _) (cY _)
   have b3:=b2.kp k3 (fun h=>by have:=g2 _ h;omega)
   obtain ⟨x4,s4,i4,f4,o4,l4,k4,g4⟩:=jw l3 (args:= [d]) (by rw [List.all_cons,Fs.cm hd];rfl) (Wm hd hp.parts (by omega)) (cY _)
   have b4:=b3.kp k4 (by simp)
   have LH:=o3.kp k4 (fun _ _=>by simp)
   have Ex:=qK p 0
   unfold jH at Ex
   rw [List.take_zero,List.flatMap_nil,List.append_nil,List.length_append] at Ex
   obtain ⟨x5,s5,w5,i5,f5,o5,l5,k5,g5,WD⟩:=vO (te:=iE) (r:=some ([x3,x4].flatMap ag.aF)) (w:=some (ag.aF x3)) l4 LH o4 (dZ _ _) rfl (by decide) (by rw [dO];omega)
   have hk2:=k2.1
   have b5:=b4.kp k5 (fun h=>by have:=g3 _ h;omega)
   simp (disch:=omega) only [jN,st,sf,dt,e1,cS,b1.r5,f1,ea,Bool.not_true,f2,b2.r5,f3,b3.r5,f4,f5]
   refine wN (Iy (aA x0) 13 rfl ?_) ?_
   ·refine .c0 (.c0 (.c0 (.c0 (.c0 (.c0 (.c0 (.cz (fun c h=>h) (.c0 (.c0 (.c0 (.cw ?_ (by decide) (.c0 trivial))))))))))))
    rcases WD with h|⟨h,h'⟩
    ·exact .inl h
    ·refine .inr ⟨_,h,fun b hb qj=> ?_⟩
     rw [o3.tb] at hb
     have:=g3 _ hb
     have:=(o2.lo qj).2
     omega
   ·simp (disch:=omega) only [jN,st,si,cS,b5.r5,he.len]
    refine aP (fE s 5 1 _ _) (fun k vs t=> ∃(i:Nat) (x:V),vs= [.int .i64 i,.int .i64 p.boxes.length,e,x]∧Loc s t∧Ow s t 5 1 x (jH p i).length (Bs (jH p i))∧i+k=p.boxes.length) ?_ _ p.boxes.length _ _
     ⟨0,x5,rfl,l5,by unfold jH;rw [List.take_zero,List.flatMap_nil,List.append_nil,List.length_append];simpa using o5,by omega⟩ (by omega)
    rintro ih k _ t ⟨i,x,rfl,hlt,ho,hk⟩ eZ
    by_cases hi:i<p.boxes.length
    ·obtain ⟨b,a1,a2,a3,a4,b1,b2,b3,b4,c1,c2,c3,c4,d1,d2,d3,d4,q,Bo,qh,y0,_⟩:=vS hr hi
     have mM:=he.ix .i64 (i:=(i:Int)) (by omega) (by omega)
     rw [Int.toNat_natCast] at mM
     obtain ⟨O1,O2,O3,O4⟩:=hp.boxes b (List.mem_of_getElem? Bo)
     have hst:=tL Bo
     have hle:=qK p (i+1)
     rw [hst,List.length_append] at hle
     have hlB:(gX b).length=(ed b.1).length+((ed b.2.1).length+((ed b.2.2.1).length+(ed b.2.2.2).length)):=by unfold gX;simp only [List.length_append]
     have Lg:=ew qh.atoms.1
     obtain ⟨_,_,_,_,_,_,_,_,_,_,_,_,_,_,_,_,hcell,C1,C2,C3,C4⟩:=qh
     simp only [List.cons.injEq,and_true] at hcell
     obtain ⟨rfl,rfl,rfl,rfl,rfl,rfl,rfl,rfl,rfl,rfl,rfl,rfl,rfl,rfl,rfl,rfl⟩:=hcell
     obtain ⟨t0,z0,B0,m0,j0,n0⟩:=cO (cs:= [.bool false,.ah,.bool false,.ah,.bool false,.ah,.bool false,.ah,.bool false,.ah,.bool false,.ah,.bool false,.ah,.bool false,.ah]) (l:= [a1,a2,a3,a4,b1,b2,b3,b4,c1,c2,c3,c4,d1,d2,d3,d4]) (t:=108) (z:=16) hlt rfl rfl Lg
     obtain ⟨z1,t1,f1,u1,m1,j1,v1⟩:=gO (dr:=true) (st:=false) m0 (by simp [C1.cm]) (TE C1 ⟨by have:=O1.2.1;omega,by have:=O1.2.2;omega⟩) (cY _)
     have B1:=B0.kp j1 (by simp)
     obtain ⟨z2,t2,f2,u2,m2,j2,v2⟩:=gO (dr:=true) (st:=false) m1 (by simp [C2.cm]) (TE C2 ⟨by have:=O2.2.1;omega,by have:=O2.2.2;omega⟩) (cY _)
     have B2:=B1.kp j2 (by simp)
     obtain ⟨z3,t3,f3,u3,m3,j3,v3⟩:=gO (dr:=true) (st:=false) m2 (by simp [C3.cm]) (TE C3 ⟨by have:=O3.2.1;omega,by have:=O3.2.2;omega⟩) (cY _)
     have B3:=B2.kp j3 (by simp)
     obtain ⟨z4,t4,f4,u4,m4,j4,v4⟩:=gO (dr:=true) (st:=false) m3 (by simp [C4.cm]) (TE C4 ⟨by have:=O4.2.1;omega,by have:=O4.2.2;omega⟩) (cY _)
     have nb: ∀(l:List Nat) (b:Nat),b∈l→b∉([]:List Nat):=fun _ _ _=>by simp
     have W0:=((((ho.kp j0 (nb _)).kp j1 (nb _)).kp j2 (nb _)).kp j3 (nb _)).kp j4 (nb _)
     have W1:=((u1.kp j2 (nb _)).kp j3 (nb _)).kp j4 (nb _)
     have W2:=(u2.kp j3 (nb _)).kp j4 (nb _)
     have W3:=u3.kp j4 (nb _)
     obtain ⟨v5,t5,f5,o5,m5,j5,g5⟩:=qU (e:=70) (z:=1) (len:=5) (l:= [x,z1,z2,z3,z4]) m4 (Pp W0.aR W1.aR W2.aR W3.aR u4.aR) rfl
     obtain ⟨zk,bs,hz,hzl,Nc,hzn⟩:=HU (s:=X.aw t5) (ls:= [jH p i,ed b.1,ed b.2.1,ed b.2.2.1,ed b.2.2.2]) o5.aw (by omega)
      (.cons _ _ _ _ (W0.kp j5 (nb _)).fr (.cons _ _ _ _ (W1.kp j5 (nb _)).fr (.cons _ _ _ _ (W2.kp j5 (nb _)).fr (.cons _ _ _ _ (W3.kp j5 (nb _)).fr (.cons _ _ _ _ (u4.kp j5 (nb _)).fr .nil)))))
     have hfl: [jH p i,ed b.1,ed b.2.1,ed b.2.2.1,ed b.2.2.2].flatten=jH p (i+1):=by rw [hst];simp [gX]
     have lu:=c57 (v:= .iL zk 5) (xs:=zk) (ls:= [jH p i,ed b.1,ed b.2.1,ed b.2.2.1,ed b.2.2.2]) (by rw [hzl];exact .mk _ _ (by omega)) Nc (by rw [hfl,hst,List.length_append];omega) (by omega)
     obtain ⟨v6,t6,f6,o6,m6,j6,_,_⟩:=tf (dr:=true) (st:=false) m5 (bK.cons _ _ _ _ _ _ _ _ hz (.nil _)) (fun c h=>by rw [List.append_nil] at h;exact hzn c h) (fun h=>by cases h) lu (cY _)
     rw [hfl] at o6
     simp (disch:=omega) only [jN,st,si,mM,y0]
     rw [z0]
     simp (disch:=omega) only [jN,st,si,cS,Po,B0.r16,f1,B1.r16,f2,B2.r16,f3,B3.r16,f4,f5,f6,br]
     exact eZ (k - 1) _ _ (by omega) ⟨i+1,v6,rfl,m6,o6,by omega⟩
    ·simp (disch:=omega) only [jN,st,si]
     rw [xh (by omega)] at ho
     exact eP hs hlt ho (aS _ _)
  ·have DR:p.formed=false:=by simpa using hf
   rw [DR] at f1 ⊢
   simp (disch:=omega) only [jN,st,sf,dt,e1,cS,b1.r5,f1,ea,Bool.not_false]
   rw [if_neg (by simp)]
   exact .inl ⟨rfl,rfl,aO rfl (by omega) l1.fx⟩) (by omega)
end Go.Vm.X
end
noncomputable section
namespace Go.Vm.X
open Go
theorem nN {c:List Int} {n m:Nat} {A B:List Int} (hA:A=c.take n) (hB:B=(c.drop n).take m):A++B=c.take (n+m):=by
 rw [hA,hB,List.take_add]
theorem IB: ∀(k:Nat) {c:List Int},bytes c→(gR k c).2.2=0→(gR k c).1.length=k∧(gR k c).1.flatMap dH=c.take (gR k c).2.1.toNat
 |0,c,_,_=>⟨rfl,by simp [gR]⟩
 |k+1,c,hc,h=>by
  unfold gR at h ⊢
  split at h
  ·rename_i h1;exact absurd h h1
  ·rename_i h1
   rw [if_neg h1]
   split at h
   ·rename_i h2;exact absurd h h2
   ·rename_i h2
    rw [if_neg h2]
    have h3:=kU hc (by omega)
    have hd:=bP (gI c).2.1.toNat hc
    have h4:=IB k hd (by omega)
    have h5:=ux k hd
    refine ⟨by simp [h4.1],?_⟩
    rw [List.flatMap_cons,Int.toNat_add (by omega) (by omega)]
    exact nN h3.2.2.2.2 h4.2
theorem DB: ∀(l:List Int) (q:List Int),(∀x,x∈l→fk x)→gR l.length (l.flatMap dH++q)=(l,((l.flatMap dH).length:Int),0)
 | [],q,_=>rfl
 |x::l,q,h=>by
  have hx:=Dz (h x (by simp)) (l.flatMap dH++q)
  have hi:=DB l q (fun y hy=>h y (by simp [hy]))
  rw [List.length_cons,List.flatMap_cons,List.append_assoc]
  unfold gR
  rw [hx]
  simp only [ne_eq,not_true,Int.toNat_natCast,List.drop_left,hi, ↓reduceIte,List.length_append,Int.natCast_add]
theorem DA {b:List Int} (hb:bytes b) (h:(gL b).2.2=0):eC (gL b).1=b.take (gL b).2.1.toNat:=by
 unfold gL at h ⊢
 split at h
 ·rename_i h1;exact absurd h h1
 ·rename_i h1
  rw [if_neg h1]
  obtain ⟨h2,h3,h4,h5⟩:=zU hb (by omega)
  have h6:=kU hb h3
  have hd:=bP (gI b).2.1.toNat hb
  rw [h2] at h ⊢
  unfold gF at h ⊢
  split at h
  ·rename_i h7;exact absurd h h7
  ·rename_i h7
   rw [if_neg h7,List.nil_append]
   have h8:=IB (gI b).1.toNat hd (by omega)
   have h9:=ux (gI b).1.toNat hd
   unfold eC
   simp only []
   rw [Int.toNat_add (by omega) (by omega),h8.1,Int.toNat_of_nonneg h4]
   exact nN h6.2.2.2.2 h8.2
theorem Hh (l:List Int):l.length≤(l.flatMap dH).length:=by
 induction l with
 |nil=>simp
 |cons x l ih=>
  rw [List.flatMap_cons,List.length_append,lQ,List.length_cons];omega
theorem yu {l:List Int} (h: ∀x,x∈l→fk x) (hl:l.length≤1000000000) (q:List Int):gL (eC l++q)=(l,((eC l).length:Int),0):=by
 have h1:=Dz (n:=(l.length:Int)) (by unfold fk;omega) (l.flatMap dH++q)
 have hC:gC (eC l++q)=((l.length:Int),((dH l.length).length:Int),0):=by
  unfold gC eC
  rw [List.append_assoc,h1]
  simp only [ne_eq,not_true, ↓reduceIte]
  rw [if_neg (by omega),if_neg]
  have:=Hh l
  simp only [List.length_append]
  omega
 unfold gL
 rw [hC]
 simp only [ne_eq,not_true, ↓reduceIte,Int.toNat_natCast]
 have hd:(eC l++q).drop (dH (l.length:Int)).length=l.flatMap dH++q:=by unfold eC;rw [List.append_assoc,List.drop_left]
 rw [hd,DB l q h]
 unfold gF
 simp only [ne_eq,not_true, ↓reduceIte,List.nil_append]
 unfold eC
 simp only [List.length_append,Int.natCast_add]
theorem It {b:List Int} (hb:bytes b) (h:(dI b).2.2.2=0): ∃x:Int,(dI b).1=decide (x<0)∧(dI b).2.1=nd x.natAbs∧eC (iF x)=b.take (dI b).2.2.1.toNat:=by
 unfold dI at h ⊢
 split at h
 ·rename_i h1;exact absurd h h1
 rename_i h1
 rw [if_neg h1]
 split at h
 ·cases h
 rename_i h2
 rw [if_neg h2]
 split at h
 ·cases h
 rename_i h3
 rw [if_neg h3]
 split at h
 ·cases h
 rename_i h4
 rw [if_neg h4]
 have hL:=DA hb (by omega)
 have hv:sG (decide ((gL b).1.getD 0 0= -1)) ((gL b).1.drop 1)=true:=by simpa using h3
 obtain ⟨_,_,g1,g2,g3,_⟩:=jF hv
 refine ⟨fm (decide ((gL b).1.getD 0 0= -1)) (vb ((gL b).1.drop 1)),g3.symm,by rw [g2,g1],?_⟩
 rw [←hL]
 congr 1
 unfold iF
 rw [g2,g1]
 have h5:jb (fm (decide ((gL b).1.getD 0 0= -1)) (vb ((gL b).1.drop 1))) 0=(gL b).1.getD 0 0:=by simpa using h4
 rw [h5]
 cases hl:(gL b).1 with
 |nil=>rw [hl] at h2;exact absurd rfl h2
 |cons x t=>rfl
theorem Mg (x:Int):decide (jb x 0= -1)=decide (x<0):=by
 unfold jb
 by_cases h:x<0
 ·rw [if_pos h,decide_eq_true h];rfl
 ·rw [if_neg h,decide_eq_false h]
  split<;>rfl
theorem C9 {x:Int} (h:(iF x).length≤1000000000) (q:List Int):dI (eC (iF x)++q)=(decide (x<0),nd x.natAbs,((eC (iF x)).length:Int),0):=by
 have h1:=yu (gT x) h q
 have h2:(iF x).getD 0 0=jb x 0:=rfl
 have h3:(iF x).drop 1=nd x.natAbs:=rfl
 have h4:=yH x
 obtain ⟨_,_,_,_,_,_⟩:=jF h4
 have h5:fm (decide (x<0)) (vb (nd x.natAbs))=x:=by
  rw [cn];unfold fm
  by_cases hx:x<0
  ·rw [decide_eq_true hx];simp only [↓reduceIte];omega
  ·rw [decide_eq_false hx];simp only [Bool.false_eq_true, ↓reduceIte];omega
 unfold dI
 rw [h1]
 simp only [ne_eq,not_true, ↓reduceIte,h2,h3,Mg,h4,h5]
 rw [if_neg (by unfold iF;simp),if_neg (by simp)]
def RG (w:Rw):Int×Nat:=(fm w.np (vb w.lp),if w.lq= [] then 1 else (vb w.lq).toNat)
def RF (x:Int×Nat):Rw:=⟨decide (x.1<0),nd x.1.natAbs,false,qd x.2⟩
theorem uZ {x:Int×Nat} (h:VR x.1 x.2):RG (RF x)=x:=by
 obtain ⟨p,q⟩:=x
 unfold RG RF
 simp only []
 have h5:fm (decide (p<0)) (vb (nd p.natAbs))=p:=by
  rw [cn];unfold fm
  by_cases hx:p<0
  ·rw [decide_eq_true hx];simp only [↓reduceIte];omega
  ·rw [decide_eq_false hx];simp only [Bool.false_eq_true, ↓reduceIte];omega
 have hq:0<q:=h.1
 rw [h5]
 unfold qd
 by_cases h1:q=1
 ·subst h1;rfl
 ·rw [if_neg h1,if_neg (rN (by omega)),cn,Int.toNat_natCast]
theorem Da {b:List Int} (hb:bytes b) (h:(dR b).2.2=0): ∃x:Int×Nat,VR x.1 x.2∧(dR b).1=RF x∧ed x=b.take (dR b).2.1.toNat∧0≤(dR b).2.1∧(dR b).2.1≤b.length∧(nd x.1.natAbs).length≤b.length∧(nd x.2).length≤b.length+1:=by
 unfold dR at h ⊢
 split at h
 ·rename_i h1;exact absurd h h1
 rename_i h1
 rw [if_neg h1]
 split at h
 ·rename_i h1;exact absurd h h1
 rename_i h2
 rw [if_neg h2]
 split at h
 ·cases h
 rename_i h3
 rw [if_neg h3]
 have pq:=bP (dI b).2.2.1.toNat hb
 have l1:=oW hb
 have l2:=oW pq
 rw [List.length_drop] at l2
 obtain ⟨x,a1,a2,a3⟩:=It hb (by omega)
 obtain ⟨y,b1,b2,b3⟩:=It pq (by omega)
 have hv:Cn (dI b).1 (dI b).2.1 (dI (b.drop (dI b).2.2.1.toNat)).1 (dI (b.drop (dI b).2.2.1.toNat)).2.1=true:=by simpa using h3
 obtain ⟨p,q,hV,e1,e2,e3,e4⟩:=L6 hv
 have hx:x=p:=by
  have h6:decide (x<0)=decide (p<0):=by rw [←a1,e1]
  have h7:nd x.natAbs=nd p.natAbs:=by rw [←a2,e2]
  have h8:=congrArg vb h7
  rw [cn,cn] at h8
  by_cases hp:p<0
  ·rw [decide_eq_true hp] at h6
   have:=of_decide_eq_true h6
   omega
  ·rw [decide_eq_false hp] at h6
   have:=of_decide_eq_false h6
   omega
 subst hx
 have hy:y=qi q:=by
  have h6:decide (y<0)=false:=by rw [←b1,e3]
  have h6':=of_decide_eq_false h6
  have h7:nd y.natAbs=nd (qi q).natAbs:=by rw [(nf q).1,←b2,e4]
  have h8:=congrArg vb h7
  rw [cn,cn] at h8
  have:0≤qi q:=by unfold qi;split<;>omega
  omega
 subst hy
 refine ⟨(x,q),hV,?_,?_,by simp only [];omega,by simp only [];omega,by rw [←a2];omega,?_⟩
 ·unfold RF
  simp only []
  rw [e1,e2,e3,e4]
 ·unfold ed oZ
  simp only []
  rw [Int.toNat_add (by omega) (by omega)]
  exact nN a3 b3
 ·simp only []
  have h9:(qd q).length≤b.length:=by rw [←e4];omega
  unfold qd at h9
  split at h9
  ·rename_i hq;subst hq;have:=nL (x:=1) (by omega);omega
  ·omega
theorem JY {x:Int×Nat} (hV:VR x.1 x.2) (h1:(nd x.1.natAbs).length≤1000000) (h2:(nd x.2).length≤1000000) (q:List Int):dR (ed x++q)=(RF x,((ed x).length:Int),0):=by
 obtain ⟨p,m⟩:=x
 have nT:=nf m
 have HE:=rV m
 have e1:=C9 (x:=p) (by unfold iF;rw [List.length_cons];simp only [] at h1;omega) (eC (iF (qi m))++q)
 have e2:=C9 (x:=qi m) (by unfold iF;rw [List.length_cons,nT.1];simp only [] at h2;omega) q
 have hvb:=L5 hV
 unfold ed oZ dR
 simp only [List.append_assoc]
 rw [e1]
 simp only [ne_eq,not_true, ↓reduceIte,Int.toNat_natCast,List.drop_left]
 rw [e2]
 simp only [ne_eq,not_true, ↓reduceIte,nT.1,nT.2]
 simp only [] at hvb
 rw [hvb]
 simp only [Bool.true_eq_false, ↓reduceIte,List.length_append,Int.natCast_add]
 rfl
def tq:Nat→List (Int×Nat)→Nat→List Int→Option (List (Int×Nat)×Nat)
 |0,acc,pos,_=>some (acc,pos)
 |k+1,acc,pos,b=>if (dR (b.drop pos)).2.2≠0 then none else tq k (acc++ [RG (dR (b.drop pos)).1]) (pos+(dR (b.drop pos)).2.1.toNat) b
def HT (l:List (Int×Nat)):Bx:=(l.getD 0 (0,0),l.getD 1 (0,0),l.getD 2 (0,0),l.getD 3 (0,0))
def uv:Nat→List Bx→Nat→List Int→Option (List Bx×Nat)
 |0,bs,pos,_=>some (bs,pos)
 |k+1,bs,pos,b=>match tq 4 [] pos b with
  |none=>none
  |some (l,pos')=>uv k (bs++ [HT l]) pos' b
def sP (l ps:List Int) (bs:List Bx):Pm:=⟨l.getD 0 0,l.getD 1 0,l.getD 2 0,ps,bs⟩
def dP (b:List Int):Option (Pm×Nat):=
 if (gL b).2.2≠0 then none else
 if (gL b).1.length≠3 then none else
 if (gL (b.drop (gL b).2.1.toNat)).2.2≠0 then none else
 match uv (gL (b.drop (gL b).2.1.toNat)).1.length [] ((gL b).2.1.toNat+(gL (b.drop (gL b).2.1.toNat)).2.1.toNat) b with
 |none=>none
 |some (bs,pos)=>if (sP (gL b).1 (gL (b.drop (gL b).2.1.toNat)).1 bs).formed then some (sP (gL b).1 (gL (b.drop (gL b).2.1.toNat)).1 bs,pos) else none
def Cm (N:Nat) (x:Int×Nat):Prop:=VR x.1 x.2∧(nd x.1.natAbs).length≤N∧(nd x.2).length≤N
theorem mH {b:List Int} {i j k:Nat} (h:i≤j) (h':j≤k):(b.drop i).take (j - i)++(b.drop j).take (k - j)=(b.drop i).take (k - i):=by
 have:b.drop j=(b.drop i).drop (j - i):=by rw [List.drop_drop];congr 1;omega
 rw [this,←List.take_add]
 congr 1;omega
theorem DD: ∀(k:Nat) {acc:List (Int×Nat)} {pos:Nat} {b:List Int} {l:List (Int×Nat)} {pos':Nat},bytes b→pos≤b.length→tq k acc pos b=some (l,pos')→
  ∃xs,l=acc++xs∧xs.length=k∧(∀x,x∈xs→Cm (b.length+1) x)∧xs.flatMap ed=(b.drop pos).take (pos' - pos)∧pos≤pos'∧pos'≤b.length
 |0,acc,pos,b,l,pos',hb,hp,h=>by
  simp only [tq,Option.some.injEq,Prod.mk.injEq] at h
  obtain ⟨rfl,rfl⟩:=h
  exact ⟨[],by simp,rfl,(fun x h=>by cases h),by simp,Nat.le_refl _,hp⟩
 |k+1,acc,pos,b,l,pos',hb,hp,h=>by
  unfold tq at h
  split at h
  ·cases h
  ·rename_i h1
   obtain ⟨x,hV,hx,he,h0,hl,lY,wK⟩:=Da (bP pos hb) (by omega)
   rw [List.length_drop] at hl lY wK
   rw [hx,uZ hV] at h
   obtain ⟨xs,rfl,h2,h3,h4,h5,h6⟩:=DD k hb (by omega) h
   refine ⟨x::xs,by simp,by simp [h2],fun y hy=> ?_,?_,by omega,h6⟩
   ·rcases List.mem_cons.1 hy with rfl|hy
    ·exact ⟨hV,by omega,by omega⟩
    ·exact h3 y hy
   ·rw [List.flatMap_cons,he,h4]
    have:=mH (b:=b) (i:=pos) (j:=pos+(dR (b.drop pos)).2.1.toNat) (k:=pos') (by omega) h5
    rw [←this]
    congr 2;omega
theorem zW: ∀(xs acc:List (Int×Nat)) (pos:Nat) (b q:List Int),(∀x,x∈xs→Cm 1000000 x)→b.drop pos=xs.flatMap ed++q→
  tq xs.length acc pos b=some (acc++xs,pos+(xs.flatMap ed).length)∧b.drop (pos+(xs.flatMap ed).length)=q
 | [],acc,pos,b,q,_,h=>by simpa [tq] using h
 |x::xs,acc,pos,b,q,hx,h=>by
  obtain ⟨o1,o2,o3⟩:=hx x (by simp)
  rw [List.flatMap_cons,List.append_assoc] at h
  have e1:=JY o1 o2 o3 (xs.flatMap ed++q)
  have hd:b.drop (pos+(ed x).length)=xs.flatMap ed++q:=by rw [←List.drop_drop,h,List.drop_left]
  obtain ⟨h2,h3⟩:=zW xs (acc++ [x]) (pos+(ed x).length) b q (fun y hy=>hx y (by simp [hy])) hd
  rw [List.length_cons,List.flatMap_cons,List.length_append,←Nat.add_assoc]
  refine ⟨?_,h3⟩
  unfold tq
  rw [h,e1]
  simp only [ne_eq,not_true, ↓reduceIte,Int.toNat_natCast,uZ o1]
  rw [h2,List.append_assoc];rfl
theorem four {l:List (Int×Nat)} (h:l.length=4): ∃a b c d,l= [a,b,c,d]:=by
 match l,h with
 | [a,b,c,d],_=>exact ⟨a,b,c,d,rfl⟩
theorem Dx: ∀(k:Nat) {bs:List Bx} {pos:Nat} {b:List Int} {r:List Bx} {pos':Nat},bytes b→pos≤b.length→uv k bs pos b=some (r,pos')→
  ∃xs,r=bs++xs∧xs.length=k∧(∀x,x∈xs→Cm (b.length+1) x.1∧Cm (b.length+1) x.2.1∧Cm (b.length+1) x.2.2.1∧Cm (b.length+1) x.2.2.2)∧xs.flatMap gX=(b.drop pos).take (pos' - pos)∧pos≤pos'∧pos'≤b.length
 |0,bs,pos,b,l,pos',hb,hp,h=>by
  simp only [uv,Option.some.injEq,Prod.mk.injEq] at h
  obtain ⟨rfl,rfl⟩:=h
  exact ⟨[],by simp,rfl,(fun x h=>by cases h),by simp,Nat.le_refl _,hp⟩
 |k+1,bs,pos,b,l,pos',hb,hp,h=>by
  unfold uv at h
  split at h
  ·cases h
  ·rename_i l1 p1 h1
   obtain ⟨xs,rfl,e1,e2,e3,e4,e5⟩:=DD 4 hb hp h1
   obtain ⟨x1,x2,x3,x4,rfl⟩:=four e1
   obtain ⟨ys,rfl,f1,f2,f3,f4,f5⟩:=Dx k hb e5 h
   refine ⟨(x1,x2,x3,x4)::ys,by simp [HT],by simp [f1],fun y hy=> ?_,?_,by omega,f5⟩
   ·rcases List.mem_cons.1 hy with rfl|hy
    ·exact ⟨e2 _ (by simp),e2 _ (by simp),e2 _ (by simp),e2 _ (by simp)⟩
    ·exact f2 y hy
   ·rw [List.flatMap_cons,f3,←mH e4 f4,←e3]
    simp [gX]
theorem zR: ∀(xs bs:List Bx) (pos:Nat) (b q:List Int),(∀x,x∈xs→Cm 1000000 x.1∧Cm 1000000 x.2.1∧Cm 1000000 x.2.2.1∧Cm 1000000 x.2.2.2)→b.drop pos=xs.flatMap gX++q→
  uv xs.length bs pos b=some (bs++xs,pos+(xs.flatMap gX).length)
 | [],bs,pos,b,q,_,h=>by simp [uv]
 |x::xs,bs,pos,b,q,hx,h=>by
  obtain ⟨o1,o2,o3,o4⟩:=hx x (by simp)
  rw [List.flatMap_cons,List.append_assoc] at h
  have hE:gX x= [x.1,x.2.1,x.2.2.1,x.2.2.2].flatMap ed:=by simp [gX]
  obtain ⟨h2,h3⟩:=zW [x.1,x.2.1,x.2.2.1,x.2.2.2] [] pos b (xs.flatMap gX++q) (fun y hy=>by
   simp only [List.mem_cons,List.not_mem_nil,or_false] at hy
   rcases hy with rfl|rfl|rfl|rfl<;>assumption) (by rw [h,hE])
  have h4:=zR xs (bs++ [x]) (pos+(gX x).length) b q (fun y hy=>hx y (by simp [hy])) (by rw [hE];exact h3)
  rw [List.length_cons,List.flatMap_cons,List.length_append,←Nat.add_assoc]
  unfold uv
  rw [show [x.1,x.2.1,x.2.2.1,x.2.2.2].length=4 from rfl] at h2
  rw [h2,←hE]
  simp only [List.nil_append]
  rw [show HT [x.1,x.2.1,x.2.2.1,x.2.2.2]=x from rfl,h4,List.append_assoc];rfl
theorem Mq {l:List Int} (h:l.length=3):l= [l.getD 0 0,l.getD 1 0,l.getD 2 0]:=by
 match l,h with
 | [a,b,c],_=>rfl
theorem yL {b:List Int} (hb:bytes b) (hl:b.length≤40000) (h1:(gL b).2.2=0) (h2:(gL b).1.length=3) (h3:(gL (b.drop (gL b).2.1.toNat)).2.2=0) {bs:List Bx} {pos:Nat}
  (h4:uv (gL (b.drop (gL b).2.1.toNat)).1.length [] ((gL b).2.1.toNat+(gL (b.drop (gL b).2.1.toNat)).2.1.toNat) b=some (bs,pos)):
  (sP (gL b).1 (gL (b.drop (gL b).2.1.toNat)).1 bs).ok∧dz (sP (gL b).1 (gL (b.drop (gL b).2.1.toNat)).1 bs)=b.take pos∧pos≤b.length:=by
 have pq:=bP (gL b).2.1.toNat hb
 have l1:=kC hb
 have l2:=kC pq
 have r1:=uw hb
 have r2:=uw pq
 have e1:=DA hb h1
 have e2:=DA pq h3
 rw [List.length_drop] at l2
 generalize gL (b.drop (gL b).2.1.toNat)=C at*
 generalize gL b=A at*
 have t3:=Mq (l:=A.1) (by omega)
 obtain ⟨xs,rfl,f1,f2,f3,f4,f5⟩:=Dx _ hb (by omega) h4
 have a3: ∀i,i<3→fk (A.1.getD i 0):=fun i hi=>r1 _ (dh A.1 0 (by omega))
 refine ⟨⟨a3 0 (by omega),a3 1 (by omega),a3 2 (by omega),r2,fun x hx=> ?_,by show C.1.length≤_;omega,?_⟩,?_,f5⟩
 ·have hx':x∈bs:=hx
  obtain ⟨o1,o2,o3,o4⟩:=f2 x hx'
  have UE: ∀ {y:Int×Nat},Cm (b.length+1) y→qJ y:=fun {y} h=>⟨h.1,by have:=h.2.1;omega,by have:=h.2.2;omega⟩
  exact ⟨UE o1,UE o2,UE o3,UE o4⟩
 ·show bs.length≤_
  omega
 ·unfold dz sP
  simp only []
  rw [←t3,e1,e2,f3]
  have h6:=mH (b:=b) (i:=0) (j:=A.2.1.toNat) (k:=A.2.1.toNat+C.2.1.toNat) (by omega) (by omega)
  have h7:=mH (b:=b) (i:=0) (j:=A.2.1.toNat+C.2.1.toNat) (k:=pos) (by omega) f4
  simp only [Nat.sub_zero,List.drop_zero] at h6 h7
  rw [←h7,←h6]
  congr 3;omega
theorem Iu {b:List Int} (hb:bytes b) (hl:b.length≤40000) {p:Pm} {n:Nat} (h:dP b=some (p,n)):p.formed=true∧p.ok∧dz p=b.take n∧n≤b.length:=by
 unfold dP at h
 split at h
 ·cases h
 rename_i h1
 split at h
 ·cases h
 rename_i h2
 split at h
 ·cases h
 rename_i h3
 split at h
 ·cases h
 rename_i bs pos h4
 split at h
 ·rename_i h5
  simp only [Option.some.injEq,Prod.mk.injEq] at h
  obtain ⟨rfl,rfl⟩:=h
  exact ⟨h5,yL hb hl (by omega) (by omega) (by omega) h4⟩
 ·cases h
theorem ye {p:Pm} (hf:p.formed=true) (hp:p.ok) (q:List Int):dP (dz p++q)=some (p,(dz p).length):=by
 have r3: ∀x,x∈ [p.host,p.dU,p.eD]→fk x:=fun x hx=>by
  simp only [List.mem_cons,List.not_mem_nil,or_false] at hx
  rcases hx with rfl|rfl|rfl
  ·exact hp.host
  ·exact hp.dU
  ·exact hp.eD
 have yD:=hp.lp
 have g1:=yu r3 (by simp) (eC p.parts++(p.boxes.flatMap gX++q))
 have g2:=yu hp.parts (by omega) (p.boxes.flatMap gX++q)
 have hE:dz p++q=eC [p.host,p.dU,p.eD]++(eC p.parts++(p.boxes.flatMap gX++q)):=by unfold dz;simp only [List.append_assoc]
 have hlen:p.parts.length=p.boxes.length:=by
  unfold Pm.formed at hf
  simp only [Bool.and_eq_true,decide_eq_true_eq] at hf
  exact hf.1
 have EI: ∀ {x:Int×Nat},qJ x→Cm 1000000 x:=fun h=>⟨h.1,by have:=h.2.1;omega,by have:=h.2.2;omega⟩
 have h4:=zR p.boxes [] ((eC [p.host,p.dU,p.eD]).length+(eC p.parts).length) (dz p++q) q (fun x hx=>by
  obtain ⟨o1,o2,o3,o4⟩:=hp.boxes x hx
  exact ⟨EI o1,EI o2,EI o3,EI o4⟩) (by rw [hE,←List.drop_drop,List.drop_left,List.drop_left])
 have hn:(dz p).length=(eC [p.host,p.dU,p.eD]).length+(eC p.parts).length+(p.boxes.flatMap gX).length:=by unfold dz;simp only [List.length_append]
 rw [hE] at h4 ⊢
 unfold dP
 rw [g1]
 simp only [Int.toNat_natCast,List.drop_left]
 rw [g2]
 simp only [ne_eq,not_true, ↓reduceIte,List.length_cons,List.length_nil,Nat.zero_add,Nat.reduceAdd,Int.toNat_natCast]
 rw [hlen,h4]
 simp only [List.nil_append]
 have Lb:sP [p.host,p.dU,p.eD] p.parts p.boxes=p:=rfl
 rw [Lb,if_pos hf,hn]
theorem JX {p:Pm} (hf:p.formed=true) (hp:p.ok) (hb:bytes (dz p)) (hl:(dz p).length≤40000) {m:Nat} (hm:m<(dz p).length):dP ((dz p).take m)=none:=by
 cases h:dP ((dz p).take m) with
 |none=>rfl
 |some r=>
  obtain ⟨p',n⟩:=r
  obtain ⟨h1,h2,h3,h4⟩:=Iu (cP m hb) (by rw [List.length_take];omega) h
  rw [List.take_take] at h3
  rw [List.length_take] at h4
  have h5:=ye h1 h2 ((dz p).drop (min n m))
  rw [h3,List.take_append_drop] at h5
  have h6:=ye hf hp []
  rw [List.append_nil,h5] at h6
  simp only [Option.some.injEq,Prod.mk.injEq] at h6
  have:=h6.2
  rw [List.length_take] at this
  omega
end Go.Vm.X
end
