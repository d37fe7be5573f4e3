/-
  A part of the proof of PromiseBytes: lemmas, in short letters, printed by a program out of the longer texts; conditions: those that each lemma names.
-/
import Derived.Test.YtalmddmghdinkaaGreatDoorV
set_option linter.all false
set_option linter.deprecated false
noncomputable section
namespace Go.Vm.X
open Go Go.Vm Go.Proofs.bt
theorem J6 {a b:V} (ha:aR a=true) (hb:aR b=true):aI (bz 2 [.ah]) [(0,1,a),(1,1,b)]=some (.agg [a,b]):=by
 rw [ga ha _ _ (by decide),ga hb _ _ (by simp [bz])];rfl
theorem qT {s:S} {b:Nat} {bs:List Nat} {c:Nat} (h:c∈iG s b bs):c=b∨c∈bs:=by
 unfold iG at h
 split at h
 ·exact .inr h
 ·exact List.mem_cons.1 h
theorem LC {s₀ s:S} {e:Nat} {x y v:V} {a b:List Int} (hv:Ow s₀ s e 1 v 2 [x,y]) (hx:Fr s₀ s x a.length (Bs a)) (hy:Fr s₀ s y b.length (Bs b)):
  ∃x' y' bs,xV s v (.iL [x',y'] 2) bs∧Is .u8 x' a∧Is .u8 y' b∧ ∀c,c∈bs→s₀.n≤c:=by
 obtain ⟨x',bx,h1,h2,h3,_⟩:=hx.fz (aS _ _)
 obtain ⟨y',AX,h4,h5,h6,_⟩:=hy.fz (aS _ _)
 cases hv with
 |aF b0 l cs bL h hl=>
  refine ⟨x',y',_,.nest b0 0 2 2 1 [x,y] _ _ e bL true (bx++(AX++ [])) h.get (Nat.le_refl _) (by simp) rfl (.cons _ _ _ _ _ _ h1 (.cons _ _ _ _ _ _ h4 .nil)),h2,h5,fun c hc=> ?_⟩
  rcases qT hc with rfl|hc
  ·exact h.lo
  ·rcases List.mem_append.1 hc with hc|hc
   ·exact h3 c hc
   ·rw [List.append_nil] at hc;exact h6 c hc
theorem TE {p:Int} {q:Nat} {a:V} (ha:CR p q a) (hl:(nd p.natAbs).length≤100000∧(nd q).length≤100000):xM cx 58 [a] 5 1 (oZ p q).length (Bs (oZ p q)):=fun s hs=>
 (E58 (aE (by decide))).runN 0 (by
  obtain ⟨d,e,rfl,hd,he⟩:=ha
  show fE s 5 1 _ _ (VE cx 0 (.agg [.bool (decide (p<0)),d,.bool false,e]) s)
  unfold VE
  obtain ⟨s1,e1,b1,l1,k1,n1⟩:=ca [.bool (decide (p<0)),d,.bool false,e] 45 (Loc.refl hs)
  have hP:CV p (.agg [.bool (decide (p<0)),d]):=⟨d,rfl,hd⟩
  have hQ:CV (qi q) (.agg [.bool false,e]):=⟨e,by rw [(nf q).2],by rw [(nf q).1];exact he⟩
  have QC:=rV q
  have nT:=(nf q).1
  obtain ⟨x,t1,f1,o1,m1,j1,g1⟩:=gO (dr:=true) (st:=false) l1 (by simp [hP.cm]) (OQ hP (by omega)) (cY _)
  have eX:=b1.kp j1 (by simp)
  obtain ⟨y,t2,f2,o2,m2,j2,g2⟩:=gO (dr:=true) (st:=false) m1 (by simp [hQ.cm]) (OQ hQ (by rw [nT];omega)) (cY _)
  have FW:=o1.kp j2 (fun _ _=>by simp)
  have L1:=iw (gT p) (by unfold iF;rw [List.length_cons];omega)
  have L2:=iw (gT (qi q)) (by unfold iF;rw [List.length_cons,nT];omega)
  have L3:(iF p).length≤100001:=by unfold iF;rw [List.length_cons];omega
  have L4:(iF (qi q)).length≤100001:=by unfold iF;rw [List.length_cons,nT];omega
  obtain ⟨v2,t3,f3,o3,m3,j3,g3⟩:=qU (e:=70) (z:=1) (len:=2) (l:= [x,y]) m2 (J6 FW.aR o2.aR) rfl
  have hx:Fr s t3 x (eC (iF p)).length (Bs (eC (iF p))):=(FW.kp j3 (fun _ _=>by simp)).fr
  have hy:Fr s t3 y (eC (iF (qi q))).length (Bs (eC (iF (qi q)))):=(o2.kp j3 (fun _ _=>by simp)).fr
  obtain ⟨x',y',bs,hz,hx',El,hb⟩:=LC (s:=X.aw t3) o3.aw hx hy
  have hc:=c57 (v:= .iL [x',y'] 2) (xs:= [x',y']) (ls:= [eC (iF p),eC (iF (qi q))]) (.mk _ _ rfl) ⟨rfl,fun i hi=>by
   match i,hi with
   |0,_=>exact hx'
   |1,_=>exact El⟩ (by simp only [List.flatten_cons,List.flatten_nil,List.append_nil,List.length_append];omega) (by simp)
  obtain ⟨v3,t4,f4,o4,m4,j4,_,_⟩:=tf (dr:=true) (st:=false) m3 (bK.cons _ _ _ _ _ _ _ _ hz (.nil _)) (fun c h=>by rw [List.append_nil] at h;exact hb c h) (fun h=>by cases h) hc (cY _)
  have hfl: [eC (iF p),eC (iF (qi q))].flatten=oZ p q:=by simp [oZ]
  rw [hfl] at o4
  simp (disch:=omega) only [jN,dt,e1,st,cS,b1.r4,f1,eX.r4,f2,f3,f4]
  exact eP hs m4 o4 (aS _ _)) (by omega)
theorem c62 {v:V} {b:List Int} (hv:Is .u8 v b) (hb:bytes b) (hlen:b.length≤1000000):eL cx 62 [v] (D5 (dR b)):=fun s hs=>
 (E62 (aE (by decide))).fD 0 (by
  show bW s _ (VH cx 0 v s)
  unfold VH
  obtain ⟨s1,e1,b1,l1,k1,n1⟩:=ca [.bool false,.ah,.bool false,.ah] 45 (Loc.refl hs)
  obtain ⟨r1,⟨a,rfl,ha⟩,e2⟩:=aU (dr:=false) (st:=true) (OS hv hb hlen) (cU hv.az) l1.wm
  have hI:=oW hb
  unfold dR
  generalize hr:dI b=r at*
  obtain ⟨d,rfl,hd⟩:=ha
  obtain ⟨s2,e3,b2,l2,k2,n2⟩:=cO (cs:= [.bool false,.ah]) (l:= [.bool r.1,d]) (t:=43) (z:=2) l1 rfl rfl (RV.atoms hd).1
  have eX:=b1.kp k2 (by simp)
  have yB:=b1.hi
  have bad: ∀(t:S) (n e:Int),Loc s t→dX s t s.n [.bool false,.ah,.bool false,.ah] 45 false→ ∃t',aq t (aB 4 (.ptr s.n 0) (.agg [.bool false,.ah,.bool false,.ah]) (aw t))=some (.bad,t')∧aC s t' [aD 4 t' (.ptr s.n 0),some (.int .i64 n),some (.int .i64 e)]=some (.dQ [.agg [.bool false,.ah,.bool false,.ah],.int .i64 n,.int .i64 e],s):=by
   intro t n e hlt DJ
   obtain ⟨t',f1,c1,m1,_,_⟩:=DJ.put (l:= [.bool false,.ah,.bool false,.ah]) (z:=4) hlt rfl rfl rfl
   exact ⟨t',f1,p7 c1 m1 hs rfl rfl⟩
  simp (disch:=omega) only [jU,st,e1,e2]
  rw [e3]
  by_cases h1:r.2.2.2=0
  ·rw [if_neg (by omega)]
   obtain ⟨w,hw,QT⟩:=hv.BQ (q:= .i64) (lo:=r.2.2.1) (by omega) (by omega)
   have pq:=bP r.2.2.1.toNat hb
   have nD:(b.drop r.2.2.1.toNat).length≤1000000:=by rw [List.length_drop];omega
   have WT:=oW pq
   rw [List.length_drop] at WT
   obtain ⟨r2,⟨a2,rfl,DG⟩,e4⟩:=aU (dr:=false) (st:=true) (OS QT pq nD) (cU QT.az) l2.wm
   generalize dI (b.drop r.2.2.1.toNat)=r' at*
   obtain ⟨d2,rfl,sE⟩:=DG
   obtain ⟨s3,e5,b3,l3,k3,n3⟩:=cO (cs:= [.bool false,.ah]) (l:= [.bool r'.1,d2]) (t:=43) (z:=2) l2 rfl rfl (RV.atoms sE).1
   have xX:=eX.kp k3 (by simp)
   have kr:=b2.kp k3 (by simp)
   simp (disch:=omega) only [jU,st,si,h1,ne_eq,not_true,hw,e4]
   rw [e5]
   by_cases h2:r'.2.2.2=0
   ·rw [if_neg (by simp [h2])]
    obtain ⟨s4,e6,b4,l4,k4,n4⟩:=cO (cs:= [.bool false,.ah,.bool false,.ah]) (l:= [.bool r.1,d,.bool r'.1,d2]) (t:=45) (z:=4) l3 rfl rfl (RR.atoms hd sE).1
    have Il:=xX.kp k4 (by simp)
    have By:RR r.1 r.2.1 r'.1 r'.2.1 (.agg [.bool r.1,d,.bool r'.1,d2]):=⟨d,d2,rfl,hd,sE⟩
    have e7:=bO (dr:=false) (st:=false) (V0 By (by omega) (by omega)) (cU By.az) l4.wm
    simp (disch:=omega) only [jU,st,si,h2,ne_eq,not_true,kr.r2,b3.r2,zE]
    rw [e6]
    simp (disch:=omega) only [jU,st,b4.r4,e7,ea]
    cases Lm:Cn r.1 r.2.1 r'.1 r'.2.1 with
    |false=>
     obtain ⟨t',f1,f2⟩:=bad s4 0 2 l4 Il
     simp (disch:=omega) only [jU,st,Bool.not_false,eB,f1, ↓reduceIte]
     exact ⟨_,⟨_,rfl,Nm⟩,f2⟩
    |true=>
     obtain ⟨t2,f3,c3,m3,_,_⟩:=Il.put (l:= [.bool r.1,d,.bool r'.1,d2]) (z:=4) l4 rfl rfl (RR.atoms hd sE).1
     simp (disch:=omega) only [jU,st,si,Bool.not_true,b4.r4,br,f3,Bool.true_eq_false, ↓reduceIte]
     exact ⟨_,⟨_,rfl,By⟩,p7 c3 m3 hs rfl (RR.atoms hd sE).2⟩
   ·rw [if_pos h2]
    obtain ⟨t',f1,f2⟩:=bad s3 0 r'.2.2.2 l3 xX
    simp (disch:=exact h2) only [jU,st,si,eB,f1]
    exact ⟨_,⟨_,rfl,Nm⟩,f2⟩
  ·rw [if_pos h1]
   obtain ⟨t',f1,f2⟩:=bad s2 0 r.2.2.2 l2 eX
   simp (disch:=exact h1) only [jU,st,si,eB,f1]
   exact ⟨_,⟨_,rfl,Nm⟩,f2⟩) (by omega)
theorem dX.r8 {s₀ s:S} {b t:Nat} {bL:Bool} {a1 a2 a3 a4 a5 a6 a7 a8:V} (h:dX s₀ s b [a1,a2,a3,a4,a5,a6,a7,a8] t bL):
  aD 4 s (.ptr b 0)=some (.agg [a1,a2,a3,a4])∧aD 4 s (.ptr b 4)=some (.agg [a5,a6,a7,a8])∧aD 8 s (.ptr b 0)=some (.agg [a1,a2,a3,a4,a5,a6,a7,a8]):=
 ⟨eV h.rd (by simp),eV h.rd (by simp),eV h.rd (by simp)⟩
theorem ec {n m:Int} (hm:0<m):0≤around n m∧around n m<m:=by
 unfold around
 split
 ·exact ⟨Int.emod_nonneg _ (by omega),Int.emod_lt_of_pos _ hm⟩
 ·exact ⟨Int.emod_nonneg _ (by omega),Int.emod_lt_of_pos _ hm⟩
theorem mr {l:List Int} {i m:Int} (hm:0<m):0≤xN l i m∧xN l i m<m:=by
 unfold xN
 split
 ·omega
 ·exact ec hm
theorem nL {x:Nat} (h:x<1000000000):(nd x).length≤1:=mZ (by omega)
theorem PM.cells {m n:Nat} {r:V} (h:PM m n r): ∃a b c d,r= .agg [a,b,c,d]∧([a,b,c,d]:List V).all atom=true∧([a,b,c,d]:List V).all aR=true:=by
 obtain ⟨p,q,_,⟨d,e,rfl,hd,he⟩,_⟩:=h
 exact ⟨_,_,_,_,rfl,(RR.atoms hd he).2,(RR.atoms hd he).1⟩
theorem OZ {n:Int} (h0:0≤n) (h1:n<4096):eL cx 129 [.int .i64 n] (PM 20 8):=fun s hs=>
 (NJ (aE (by decide))).fD 0 (by
  show bW s _ (Gq cx 0 (.int .i64 n) s)
  unfold Gq
  obtain ⟨s1,e1,b1,l1,k1,n1⟩:=ca [.bool false,.ah,.bool false,.ah] 45 (Loc.refl hs)
  have f1:=bO (dr:=false) (st:=true) (c9 n 41 (by omega) (by omega) (by omega) (by omega)) (cC rfl rfl) l1.wm
  have sF:=ec (n:=n) (m:=41) (by omega)
  have hfl:aI (bz 6 [(.int .i64 0)]) [(0,1,(.int .i64 1)),(1,1,(.int .i64 1)),(2,1,(.int .i64 2)),(3,1,(.int .i64 3)),(4,1,(.int .i64 5)),(5,1,(.int .i64 8))]=some (.agg (dk [1,1,2,3,5,8])):=rfl
  obtain ⟨x,t1,f2,o1,m1,j1,g1⟩:=qU (e:=3) (z:=1) (len:=6) l1 hfl rfl
  have f3:=bO (dr:=false) (st:=true) (c9 (n / 41) 6 (by omega) (by omega) (by omega) (by omega)) (cC rfl rfl) m1.wm
  have HF:=ec (n:=n / 41) (m:=6) (by omega)
  have eX:=b1.kp j1 (by simp)
  generalize around n 41=u at*
  generalize around (n / 41) 6=w at*
  obtain ⟨p,f4,f5⟩:=o1.at .i64 (i:=w) (by omega) (by omega)
  rw [mD _ (by simp;omega)] at f5
  have hv:1≤([1,1,2,3,5,8]:List Int).getD w.toNat 0∧([1,1,2,3,5,8]:List Int).getD w.toNat 0≤8:=by
   have:w.toNat=0∨w.toNat=1∨w.toNat=2∨w.toNat=3∨w.toNat=4∨w.toNat=5:=by omega
   rcases this with h|h|h|h|h|h<;>rw [h]<;>decide
  generalize ([1,1,2,3,5,8]:List Int).getD w.toNat 0=y at*
  obtain ⟨r,hr,f6⟩:=aU (dr:=false) (st:=true) (c28 (p:=u - 20) (q:=y) (by unfold fk;omega) (by unfold fk;omega)) (cC rfl rfl) m1.wm
  simp (disch:=omega) only [st,si,e1,f1,br,f2,f3,f4,f5,f6]
  obtain ⟨P,Q,hV,hC,uA,qj⟩:=hr
  have FM:=hC
  obtain ⟨d,e,rfl,hd,he⟩:=hC
  exact ⟨_,⟨P,Q,hV,FM,by omega,by omega⟩,gz eX m1 hs rfl rfl (RR.atoms hd he).2⟩) (by omega)
def PV (r:V):Prop:= ∃a1 a2 a3 a4 b1 b2 b3 b4,r= .agg [a1,a2,a3,a4,b1,b2,b3,b4]∧PM 20 8 (.agg [a1,a2,a3,a4])∧PM 20 8 (.agg [b1,b2,b3,b4])
theorem uh {m n:Nat} {a b c d:V} (h:PM m n (.agg [a,b,c,d])):([a,b,c,d]:List V).all atom=true:=by
 obtain ⟨a',b',c',d',h1,h2,_⟩:=h.cells
 cases h1;exact h2
theorem iT {p:V→Bool} {a b:List V} (ha:a.all p=true) (hb:b.all p=true):(a++b).all p=true:=by rw [List.all_append,ha,hb];rfl
theorem ew {l:List V} (h:l.all atom=true):l.all aR=true:=by
 rw [List.all_eq_true] at h ⊢
 exact fun x hx=>mv (h x hx)
theorem c82 {v:V} {l:List Int} (hv:Is .i64 v l) (hr: ∀x,x∈l→fk x) {i:Int} (h0:0≤i) (h1:i≤1000):eL cx 82 [v,.int .i64 i] PV:=fun s hs=>
 (E82 (aE (by decide))).fD 0 (by
  show bW s _ (Tt cx 0 v (.int .i64 i) s)
  unfold Tt
  obtain ⟨s1,e1,b1,l1,k1,n1⟩:=ca [.bool false,.ah,.bool false,.ah,.bool false,.ah,.bool false,.ah] 47 (Loc.refl hs)
  have a3: ∀j:Int,([v,.int .i64 j,.int .i64 4096]:List V).all az=true:=fun j=>by simp only [List.all_cons,List.all_nil,hv.az];rfl
  have f1:=bO (dr:=false) (st:=true) (Wj hv hr i 4096 (by omega) (by omega)) (a3 _) l1.wm
  have r1:=mr (l:=l) (i:=i) (m:=4096) (by omega)
  obtain ⟨x,hx,f2⟩:=aU (dr:=false) (st:=true) (OZ r1.1 r1.2) (cU rfl) l1.wm
  have f3:=bO (dr:=false) (st:=true) (Wj hv hr (i+1) 4096 (by omega) (by omega)) (a3 _) l1.wm
  have r2:=mr (l:=l) (i:=i+1) (m:=4096) (by omega)
  obtain ⟨y,hy,f4⟩:=aU (dr:=false) (st:=true) (OZ r2.1 r2.2) (cU rfl) l1.wm
  obtain ⟨x1,x2,x3,x4,rfl,hxa,_⟩:=hx.cells
  obtain ⟨y1,y2,y3,y4,rfl,hya,_⟩:=hy.cells
  have hf:aI [.bool false,.ah,.bool false,.ah,.bool false,.ah,.bool false,.ah] [(0,4,.agg [x1,x2,x3,x4]),(4,4,.agg [y1,y2,y3,y4])]=some (.agg [x1,x2,x3,x4,y1,y2,y3,y4]):=rfl
  simp (disch:=omega) only [st,si,e1,f1,f2,br,f3,f4,hf]
  exact ⟨_,⟨_,_,_,_,_,_,_,_,rfl,hx,hy⟩,gz b1 l1 hs rfl rfl (iT hxa hya)⟩) (by omega)
def qJ (x:Int×Nat):Prop:=VR x.1 x.2∧(nd x.1.natAbs).length≤50000∧(nd x.2).length≤50000
abbrev Bx:Type:=(Int×Nat)×(Int×Nat)×(Int×Nat)×(Int×Nat)
def Bx.ok (b:Bx):Prop:=qJ b.1∧qJ b.2.1∧qJ b.2.2.1∧qJ b.2.2.2
def RB (b:Bx) (cs:List V):Prop:= ∃a1 a2 a3 a4 b1 b2 b3 b4 c1 c2 c3 c4 d1 d2 d3 d4,cs= [a1,a2,a3,a4,b1,b2,b3,b4,c1,c2,c3,c4,d1,d2,d3,d4]∧
 CR b.1.1 b.1.2 (.agg [a1,a2,a3,a4])∧CR b.2.1.1 b.2.1.2 (.agg [b1,b2,b3,b4])∧CR b.2.2.1.1 b.2.2.1.2 (.agg [c1,c2,c3,c4])∧CR b.2.2.2.1 b.2.2.2.2 (.agg [d1,d2,d3,d4])
theorem CR.atoms {p:Int} {q:Nat} {a b c d:V} (h:CR p q (.agg [a,b,c,d])):([a,b,c,d]:List V).all atom=true:=h.az
theorem RB.atoms {b:Bx} {cs:List V} (h:RB b cs):cs.all atom=true∧cs.length=16:=by
 obtain ⟨a1,a2,a3,a4,b1,b2,b3,b4,c1,c2,c3,c4,d1,d2,d3,d4,rfl,h1,h2,h3,h4⟩:=h
 exact ⟨iT h1.atoms (iT h2.atoms (iT h3.atoms h4.atoms)),rfl⟩
inductive iQ:List Bx→List V→Prop
 |nil:iQ [] []
 |cons (b:Bx) (c:List V) (bs:List Bx) (cs:List V) (h:RB b c) (hs:iQ bs cs):iQ (b::bs) (c++cs)
theorem iQ.atoms {bs:List Bx} {cs:List V} (h:iQ bs cs):cs.all atom=true∧cs.length=bs.length*16:=by
 induction h with
 |nil=>exact ⟨rfl,rfl⟩
 |cons b c bs cs h _ ih=>exact ⟨iT h.atoms.1 ih.1,by rw [List.length_append,h.atoms.2,ih.2,List.length_cons];omega⟩
theorem iQ.app {bs FJ:List Bx} {cs cs':List V} (h:iQ bs cs) (h':iQ FJ cs'):iQ (bs++FJ) (cs++cs'):=by
 induction h with
 |nil=>exact h'
 |cons b c bs cs h _ ih=>rw [List.append_assoc];exact .cons _ _ _ _ h ih
theorem iQ.one {b:Bx} {c:List V} (h:RB b c):iQ [b] c:=by
 have:=iQ.cons b c [] [] h .nil
 rwa [List.append_nil] at this
theorem iQ.at {bs:List Bx} {cs:List V} (h:iQ bs cs) {i:Nat} (hi:i<bs.length): ∃b,bs[i]? =some b∧RB b ((cs.drop (i*16)).take 16):=by
 induction h generalizing i with
 |nil=>simp at hi
 |cons b c bs cs h _ ih=>
  cases i with
  |zero=>
   refine ⟨b,rfl,?_⟩
   rw [Nat.zero_mul,List.drop_zero,List.take_append_of_le_length (by rw [h.atoms.2];omega),List.take_of_length_le (by rw [h.atoms.2];omega)]
   exact h
  |succ i=>
   obtain ⟨b',h1,h2⟩:=ih (i:=i) (by simpa using hi)
   refine ⟨b',by simpa using h1,?_⟩
   have:(c++cs).drop ((i+1)*16)=cs.drop (i*16):=by
    rw [List.drop_append,List.drop_eq_nil_of_le (by rw [h.atoms.2];omega),List.nil_append,h.atoms.2]
    congr 1;omega
   rw [this];exact h2
end Go.Vm.X
end
noncomputable section
set_option maxRecDepth 20000
namespace Go.Vm.X
open Go Go.Vm Go.Proofs.bt
def qR (s:S) (e:Nat) (P:List Bx→Prop) (r:bB):Prop:= ∃bs cs,P bs∧iQ bs cs∧fE s e 16 bs.length cs r
theorem cc.ZJ {O:aL} {G:Tr Func} {T:Types} {f:Nat} {F:Fn} (hE:cc O G T f F) (n:Nat) {args:List V} {s:S} {e:Nat} {P:List Bx→Prop} (h:qR s e P (F (vV O G T) n args s)) (hw:s.wm≤s.n):qR s e P (vV O G T f args s):=by
 obtain ⟨bs,cs,hp,hr,hn⟩:=h
 exact ⟨bs,cs,hp,hr,hE.runN n hn hw⟩
theorem jB (s:S) (e:Nat) (P:List Bx→Prop) (f:List V→S→bB) (c:(List V→S→bB)→bB):qR s e P (jn f c)=qR s e P (c f):=propext ⟨id,id⟩
theorem wBx {s:S} {e:Nat} {P:List Bx→Prop} {m:List Nat} {l:List Fl} {k:bB} (h:bE m l=true) (h':qR s e P k):qR s e P (bU (bE m l) k):=by rw [wB h];exact h'
def AE (x:Int×Nat):Prop:=VR x.1 x.2∧x.1.natAbs≤100000∧x.2≤1000
theorem AE.qJ {x:Int×Nat} (h:AE x):qJ x:=by
 obtain ⟨h0,h1,h2⟩:=h
 have:=nL (x:=x.1.natAbs) (by omega)
 have:=nL (x:=x.2) (by omega)
 exact ⟨h0,by omega,by omega⟩
def Bx.sm (b:Bx):Prop:=AE b.1∧AE b.2.1∧AE b.2.2.1∧AE b.2.2.2
theorem Bx.sm.ok {b:Bx} (h:b.sm):b.ok:=⟨h.1.qJ,h.2.1.qJ,h.2.2.1.qJ,h.2.2.2.qJ⟩
theorem PM.AE {m n:Nat} {r:V} (h:PM m n r) (hm:m≤100000) (hn:n≤1000): ∃x:Int×Nat,X.AE x∧CR x.1 x.2 r:=by
 obtain ⟨p,q,hV,hC,h1,h2⟩:=h
 exact ⟨(p,q),⟨hV,by simp only [];omega,by simp only [];omega⟩,hC⟩
theorem PM.sq {a:V} (h:PM 20 8 a): ∃p q,VR p q∧CR p q a∧p.natAbs≤20∧q≤8∧(nd p.natAbs).length≤100000∧(nd q).length≤100000:=by
 obtain ⟨p,q,hV,hC,h1,h2⟩:=h
 have:=nL (x:=p.natAbs) (by omega)
 have:=nL (x:=q) (by omega)
 exact ⟨p,q,hV,hC,h1,h2,by omega,by omega⟩
theorem I3 {a b:V} (ha:PM 20 8 a) (hb:PM 20 8 b): ∃P:V→Prop,eL cx 83 [b,b] P∧ ∀c,P c→az c=true∧eL cx 33 [a,c] (PM 100000 1000):=by
 obtain ⟨p,q,hV,hC,h1,h2,h3,h4⟩:=ha.sq
 obtain ⟨p',q',hV',FM,uz,yw,Kg,Py⟩:=hb.sq
 refine ⟨_,c83 FM FM hV'.1 hV'.1 ⟨Kg,Py⟩ ⟨Kg,Py⟩,fun c hc=>⟨hc.az,?_⟩⟩
 obtain ⟨p2,q2,hV2,hC2,g1,g2⟩:=hc
 have i1:p'.natAbs*p'.natAbs≤20*20:=Nat.mul_le_mul uz uz
 have i2:q'*q'≤8*8:=Nat.mul_le_mul yw yw
 have:=nL (x:=p2.natAbs) (by omega)
 have:=nL (x:=q2) (by omega)
 have Xd:=c33 hC hC2 hV.1 hV2.1 ⟨h3,h4⟩ ⟨by omega,by omega⟩
 have i3:p.natAbs*q2≤20*64:=Nat.mul_le_mul h1 (by omega)
 have i4:p2.natAbs*q≤400*8:=Nat.mul_le_mul (by omega) h2
 have i5:q*q2≤8*64:=Nat.mul_le_mul h2 (by omega)
 intro s hs
 obtain ⟨v,⟨P,Q,hV3,hC3,k1,k2⟩,h⟩:=Xd s hs
 exact ⟨v,⟨P,Q,hV3,hC3,by omega,by omega⟩,h⟩
theorem c39 {v:V} {l:List Int} (hv:Is .i64 v l) (hr: ∀x,x∈l→fk x) (s:S) (hs:s.wm=s.n):qR s 49 (fun bs=>bs.length≤12∧ ∀b,b∈bs→b.sm) (cx 39 [v] s):=
 (E39 (aE (by decide))).ZJ 20 (by
  show qR s 49 _ (Td cx 20 v s)
  unfold Td
  generalize hF:20=F
  simp (disch:=omega) only [jB]
  refine aP (qR s 49 _) (fun k vs t=> ∃(i:Nat) (x:V) (bs:List Bx) (cs:List V),vs= [.int .i64 i,v,x]∧Loc s t∧Ow s t 49 16 x bs.length cs∧iQ bs cs∧(∀b,b∈bs→b.sm)∧bs.length≤i∧i+k=13∧i≤12) ?_ _ 13 _ _ ⟨0,.ah, [], [],rfl,Loc.refl hs,.nil,.nil,(fun b hb=>by cases hb),Nat.le_refl _,rfl,by omega⟩ (by omega)
  rintro ih k _ t ⟨i,x,bs,cs,rfl,hlt,ho,hb,hok,z9,DX,ab7⟩ eZ
  have done:qR s 49 (fun bs=>bs.length≤12∧ ∀b,b∈bs→b.sm) (aC s t [some x]):=
   ⟨bs,cs,⟨by omega,hok⟩,hb,eP hs hlt ho hb.atoms.1⟩
  by_cases h1:4*i<l.length
  ·by_cases h2:i<12
   ·obtain ⟨lo,hlo,f1⟩:=aU (dr:=false) (st:=true) (c82 hv hr (i:=4*(i:Int)) (by omega) (by omega)) (cC hv.az rfl) hlt.wm
    obtain ⟨a1,a2,a3,a4,b1,b2,b3,b4,rfl,hA,hB⟩:=hlo
    have MV:=uh hA
    have haB:=uh hB
    obtain ⟨t1,f2,c1,m1,j1,n1⟩:=cO (cs:= [.bool false,.ah,.bool false,.ah,.bool false,.ah,.bool false,.ah]) (l:= [a1,a2,a3,a4,b1,b2,b3,b4]) (t:=47) (z:=8) hlt rfl rfl (ew (iT MV haB))
    obtain ⟨sz,hsz,f3⟩:=aU (dr:=false) (st:=true) (c82 hv hr (i:=4*(i:Int)+2) (by omega) (by omega)) (cC hv.az rfl) m1.wm
    obtain ⟨u1,u2,u3,u4,w1,w2,w3,w4,rfl,hU,hW⟩:=hsz
    have haU:=uh hU
    have haW:=uh hW
    obtain ⟨t2,f4,c2,m2,j2,n2⟩:=cO (cs:= [.bool false,.ah,.bool false,.ah,.bool false,.ah,.bool false,.ah]) (l:= [u1,u2,u3,u4,w1,w2,w3,w4]) (t:=47) (z:=8) m1 rfl rfl (ew (iT haU haW))
    have B7:=c1.kp j2 (by simp)
    obtain ⟨P1,Qn,Cg⟩:=I3 hA hU
    obtain ⟨P2,M3,M4⟩:=I3 hB hW
    have aaU:az (.agg [u1,u2,u3,u4])=true:=haU
    have aaW:az (.agg [w1,w2,w3,w4])=true:=haW
    obtain ⟨y1,hy1,f5⟩:=dM Qn (cC aaU aaU) m2.wm
    obtain ⟨z1,hz1,f6⟩:=dM (Cg y1 hy1).2 (cC MV (Cg y1 hy1).1) m2.wm
    obtain ⟨y2,Uu,f7⟩:=dM M3 (cC aaW aaW) m2.wm
    obtain ⟨z2,Ci,f8⟩:=dM (M4 y2 Uu).2 (cC haB (M4 y2 Uu).1) m2.wm
    obtain ⟨p1,p2,p3,p4,rfl,hPa,_⟩:=hz1.cells
    obtain ⟨q1,q2,q3,q4,rfl,hQa,_⟩:=Ci.cells
    have hfl:aI [.bool false,.ah,.bool false,.ah,.bool false,.ah,.bool false,.ah] [(0,4,.agg [p1,p2,p3,p4]),(4,4,.agg [q1,q2,q3,q4])]=some (.agg [p1,p2,p3,p4,q1,q2,q3,q4]):=rfl
    obtain ⟨t3,h3,f9,c3,m3,j3,n3⟩:=AW (cs:= [.bool false,.ah,.bool false,.ah,.bool false,.ah,.bool false,.ah]) (t:=47) (r:=some []) m2
    obtain ⟨t4,f10,c4,m4,j4,n4⟩:=c3.mN (r:=some (ag.aF (.ptr t2.n 0))) (w:=some (ag.aF (.ptr t2.n 0))) (l:= [p1,p2,p3,p4,q1,q2,q3,q4]) (z:=8) m3 rfl rfl (ew (iT hPa hQa))
    have ll:=B7.hi
    have qG:=c2.hi
    have VW:=(B7.kp j3 (by simp)).kp j4 (by simp;omega)
    have abU:=(c2.kp j3 (by simp)).kp j4 (by simp;omega)
    have Ud:Ow s t4 49 16 x bs.length cs:=(((ho.kp j1 (fun _ _=>by simp)).kp j2 (fun _ _=>by simp)).kp j3 (fun _ _=>by simp)).kp j4 (fun b hb h=>by have:=(ho.lo hb).2;simp at h;omega)
    obtain ⟨xA,okA,crA⟩:=hA.AE (by omega) (by omega)
    obtain ⟨xB,okB,crB⟩:=hB.AE (by omega) (by omega)
    obtain ⟨xP,okP,crP⟩:=hz1.AE (by omega) (by omega)
    obtain ⟨xQ,okQ,crQ⟩:=Ci.AE (by omega) (by omega)
    have qh:RB (xA,xB,xP,xQ) [a1,a2,a3,a4,b1,b2,b3,b4,p1,p2,p3,p4,q1,q2,q3,q4]:=⟨_,_,_,_,_,_,_,_,_,_,_,_,_,_,_,_,rfl,crA,crB,crP,crQ⟩
    have DT:aI [.bool false,.ah,.bool false,.ah,.bool false,.ah,.bool false,.ah,.bool false,.ah,.bool false,.ah,.bool false,.ah,.bool false,.ah] [(0,8,.agg [a1,a2,a3,a4,b1,b2,b3,b4]),(8,8,.agg [p1,p2,p3,p4,q1,q2,q3,q4])]=
     some (.agg [a1,a2,a3,a4,b1,b2,b3,b4,p1,p2,p3,p4,q1,q2,q3,q4]):=rfl
    have yA:aI (bz 1 [.bool false,.ah,.bool false,.ah,.bool false,.ah,.bool false,.ah,.bool false,.ah,.bool false,.ah,.bool false,.ah,.bool false,.ah]) [(0,16,.agg [a1,a2,a3,a4,b1,b2,b3,b4,p1,p2,p3,p4,q1,q2,q3,q4])]=
     some (.agg [a1,a2,a3,a4,b1,b2,b3,b4,p1,p2,p3,p4,q1,q2,q3,q4]):=rfl
    obtain ⟨x',t5,f11,o5,m5,j5,g5⟩:=ug (te:=mP) m4 Ud yA rfl (ew qh.atoms.1) rfl (by decide) (by rw [show mP.bytes=256 from rfl];omega)
    simp (disch:=omega) only [jB,st,si,br,hv.len,f1]
    rw [f2]
    simp (disch:=omega) only [st,si,br,f3]
    rw [f4]
    simp (disch:=omega) only [st,sf,cS,B7.r8,c2.r8,f5,f6,f7,f8,hfl,f9,f10]
    refine wBx (vA (fl:= [_,_,_,_,_,_,_,_,_,_,_,_,_,_,_,_,_,_]) (b:=t2.n) 18 rfl (by decide) (by repeat' first|exact trivial|apply Qs.c0)) ?_
    simp (disch:=omega) only [st,VW.r8,c4.r8,DT]
    rw [f11]
    refine eZ (k - 1) _ _ (by omega) ⟨i+1,x',bs++([(xA,xB,xP,xQ)]:List Bx),_,rfl,m5,by rw [List.length_append];exact o5,hb.app (iQ.one qh),fun b hb=> ?_,by rw [List.length_append];simp;omega,by omega,by omega⟩
    rcases List.mem_append.1 hb with hb|hb
    ·exact hok b hb
    ·rw [List.mem_singleton] at hb;subst hb;exact ⟨okA,okB,okP,okQ⟩
   ·simp (disch:=omega) only [jB,st,si,br,hv.len]
    exact done
  ·simp (disch:=omega) only [jB,st,si,br,hv.len]
   exact done) (by omega)
end Go.Vm.X
end
noncomputable section
namespace Go.Vm.X
open Go Go.Vm Go.Proofs.bt
theorem dX.r16 {s₀ s:S} {b t:Nat} {bL:Bool} {a1 a2 a3 a4 b1 b2 b3 b4 c1 c2 c3 c4 d1 d2 d3 d4:V} (h:dX s₀ s b [a1,a2,a3,a4,b1,b2,b3,b4,c1,c2,c3,c4,d1,d2,d3,d4] t bL):
  aD 4 s (.ptr b 0)=some (.agg [a1,a2,a3,a4])∧aD 4 s (.ptr b 4)=some (.agg [b1,b2,b3,b4])∧aD 4 s (.ptr b 8)=some (.agg [c1,c2,c3,c4])∧aD 4 s (.ptr b 12)=some (.agg [d1,d2,d3,d4])∧
  aD 8 s (.ptr b 0)=some (.agg [a1,a2,a3,a4,b1,b2,b3,b4])∧aD 8 s (.ptr b 8)=some (.agg [c1,c2,c3,c4,d1,d2,d3,d4]):=
 ⟨eV h.rd (by simp),eV h.rd (by simp),eV h.rd (by simp),eV h.rd (by simp),eV h.rd (by simp),eV h.rd (by simp)⟩
theorem dX.r5 {s₀ s:S} {b t:Nat} {bL:Bool} {x y z d e:V} (h:dX s₀ s b [x,y,z,d,e] t bL):
  aM s (.ptr b 0)=some x∧aM s (.ptr b 1)=some y∧aM s (.ptr b 2)=some z∧aM s (.ptr b 3)=some d∧aM s (.ptr b 4)=some e∧aD 5 s (.ptr b 0)=some (.agg [x,y,z,d,e]):=
 ⟨fI h.rd (by simp),fI h.rd (by simp),fI h.rd (by simp),fI h.rd (by simp),fI h.rd (by simp),eV h.rd (by simp)⟩
theorem Po (b:Nat):aJ 0 (.ptr b 4)=some (.ptr b 4)∧aJ 0 (.ptr b 8)=some (.ptr b 8)∧aJ 4 (.ptr b 8)=some (.ptr b 12)∧aJ 4 (.ptr b 4)=some (.ptr b 8):=⟨rfl,rfl,rfl,rfl⟩
theorem Fh (x:Int):jb x x=0:=by unfold jb;rw [if_neg (by omega),if_neg (by omega)]
theorem qJ.cmp {x:Int×Nat} (h:qJ x) {a b:V} (ha:CR x.1 x.2 a) (hb:CR x.1 x.2 b):jK cx 78 [a,b] (.int .i64 0):=by
 have h1:=h.2.1
 have h2:=h.2.2
 have:=c78 ha hb h.1.1 h.1.1 ⟨by omega,by omega⟩ ⟨by omega,by omega⟩
 rwa [Fh] at this
theorem c48 {b:Bx} {c c':List V} (hok:b.ok) (hc:RB b c) (xR:RB b c'):jK cx 48 [.agg c,.agg c'] (.bool true):=fun s hs=>
 (E48 (aE (by decide))).run 0 (by
  obtain ⟨o1,o2,o3,o4⟩:=hok
  obtain ⟨a1,a2,a3,a4,b1,b2,b3,b4,c1,c2,c3,c4,d1,d2,d3,d4,rfl,h1,h2,h3,h4⟩:=hc
  obtain ⟨a1',a2',MK,a4',eX,kr,Im,MN,B7,c2',MO,TD,d1',d2',d3',d4',rfl,uz,yw,Kg,Py⟩:=xR
  show Th cx 0 (.agg [a1,a2,a3,a4,b1,b2,b3,b4,c1,c2,c3,c4,d1,d2,d3,d4]) (.agg [a1',a2',MK,a4',eX,kr,Im,MN,B7,c2',MO,TD,d1',d2',d3',d4']) s=_
  unfold Th
  obtain ⟨s1,e1,k1,l1,j1,_⟩:=ca [a1,a2,a3,a4,b1,b2,b3,b4,c1,c2,c3,c4,d1,d2,d3,d4] 49 (Loc.refl hs)
  obtain ⟨s2,e2,k2,l2,j2,_⟩:=ca [a1',a2',MK,a4',eX,kr,Im,MN,B7,c2',MO,TD,d1',d2',d3',d4'] 49 l1
  have k1':=k1.kp j2 (by simp)
  have f1:=bO (dr:=false) (st:=false) (o1.cmp h1 uz) (cC h1.az uz.az) l2.wm
  have f2:=bO (dr:=false) (st:=false) (o2.cmp h2 yw) (cC h2.az yw.az) l2.wm
  have f3:=bO (dr:=false) (st:=false) (o3.cmp h3 Kg) (cC h3.az Kg.az) l2.wm
  have f4:=bO (dr:=false) (st:=false) (o4.cmp h4 Py) (cC h4.az Py.az) l2.wm
  simp (disch:=omega) only [st,si,gS,dt,e1,e2,cS,Po,k1'.r16,k2.r16,f1,f2,f3,f4]
  exact aO rfl (by omega) l2.fx) (by omega)
def gZ (l:List Int) (i:Nat):Bool:=decide (0≤l.getD i 0) && (decide (i=0) || decide (l.getD (i - 1) 0<l.getD i 0))
def rC (l:List Int):Bool:=(List.range l.length).all (gZ l)
theorem rD {l:List Int} {i:Nat} (hi:i<l.length) (h:gZ l i=false):rC l=false:=by
 unfold rC
 rw [List.all_eq_false]
 exact ⟨i,List.mem_range.2 hi,by rw [h];exact Bool.false_ne_true⟩
theorem lZ {l:List Int} {i:Nat} (h:(List.range i).all (gZ l)=true) (h':gZ l i=true):(List.range (i+1)).all (gZ l)=true:=by
 rw [List.range_succ,List.all_append,h,List.all_cons,List.all_nil,h'];rfl
theorem c86 {v:V} {l:List Int} (hv:Is .i64 v l) (hl:l.length≤1000000000):jK cx 86 [v] (.bool (rC l)):=fun s hs=>
 (E86 (aE (by decide))).run (l.length+1) (by
  show Tv cx _ v s=_
  unfold Tv
  generalize hF:l.length+1=F
  simp (disch:=omega) only [jE,st,si,hv.len]
  refine aP (fun r=>r=_) (fun k vs t=> ∃i:Nat,vs= [.int .i64 i,.int .i64 (l.length:Int),v,v]∧s=t∧i+k=l.length∧(List.range i).all (gZ l)=true) ?_ _ l.length _ _ ⟨0,rfl,rfl,by omega,rfl⟩ (by omega)
  rintro ih k _ _ ⟨i,rfl,rfl,hk,gh⟩ eZ
  by_cases hi:i<l.length
  ·by_cases h1:l.getD i 0<0
   ·simp (disch:=omega) only [jE,st,si,hv.ix,dW,Int.toNat_natCast]
    rw [aO rfl (by omega) (by omega),rD hi (by unfold gZ;rw [decide_eq_false (by omega)];rfl)]
   ·by_cases h0:i=0
    ·simp (disch:=omega) only [jE,st,si,hv.ix,dW,Int.toNat_natCast,br]
     exact eZ (k - 1) _ _ (by omega) ⟨i+1,rfl,rfl,by omega,lZ gh (by unfold gZ;rw [decide_eq_true (by omega),decide_eq_true h0];rfl)⟩
    ·have hT:((i:Int) - 1).toNat=i - 1:=by omega
     by_cases h2:l.getD i 0≤l.getD (i - 1) 0
     ·simp (disch:=omega) only [jE,st,si,hv.ix,dW,Int.toNat_natCast,br,hT]
      rw [aO rfl (by omega) (by omega),rD hi (by unfold gZ;rw [decide_eq_false h0,decide_eq_false (show ¬l.getD (i - 1) 0<l.getD i 0 by omega)];simp)]
     ·simp (disch:=omega) only [jE,st,si,hv.ix,dW,Int.toNat_natCast,br,hT]
      exact eZ (k - 1) _ _ (by omega) ⟨i+1,rfl,rfl,by omega,lZ gh (by unfold gZ;rw [decide_eq_true (show 0≤l.getD i 0 by omega),decide_eq_true (show l.getD (i - 1) 0<l.getD i 0 by omega)];simp)⟩
  ·have:i=l.length:=by omega
   subst this
   simp (disch:=omega) only [jE,st,si]
   rw [aO rfl (by omega) (by omega)]
   unfold rC
   rw [gh]) (by omega)
structure Pm where
 host:Int
 dU:Int
 eD:Int
 parts:List Int
 boxes:List Bx
def RP (p:Pm) (r:V):Prop:= ∃d e cs,r= .agg [.int .i64 p.host,.int .i64 p.dU,.int .i64 p.eD,d,e]∧Is .i64 d p.parts∧Fs 16 e p.boxes.length cs∧iQ p.boxes cs
def Pm.formed (p:Pm):Bool:=decide (p.parts.length=p.boxes.length) && (decide (p.dU≤p.eD) && rC p.parts)
structure Pm.ok (p:Pm):Prop where
 host:fk p.host
 dU:fk p.dU
 eD:fk p.eD
 parts: ∀x,x∈p.parts→fk x
 boxes: ∀b,b∈p.boxes→b.ok
 lp:p.parts.length≤50000
 lb:p.boxes.length≤50000
theorem fK {h f t:Int} {d e:V} {l:List Int} {n:Nat} {cs:List V} (hd:Is .i64 d l) (he:Fs 16 e n cs):([.int .i64 h,.int .i64 f,.int .i64 t,d,e]:List V).all atom=true:=by
 show (true && (true && (true && (atom d && (atom e && true)))))=true
 rw [Is.atom hd,he.atom];rfl
theorem RP.az {p:Pm} {r:V} (h:RP p r):X.az r=true:=by
 obtain ⟨d,e,cs,rfl,hd,he,_⟩:=h
 exact fK hd he
theorem c41 {p:Pm} {a:V} (ha:RP p a) (hp:p.ok):jK cx 41 [a] (.bool p.formed):=fun s hs=>
 (E41 (aE (by decide))).run 0 (by
  obtain ⟨d,e,cs,rfl,hd,he,hr⟩:=ha
  have yD:=hp.lp
  have Br:=hp.lb
  show Te cx 0 (.agg [.int .i64 p.host,.int .i64 p.dU,.int .i64 p.eD,d,e]) s=_
  unfold Te
  obtain ⟨s1,e1,b1,l1,k1,n1⟩:=ca [.int .i64 p.host,.int .i64 p.dU,.int .i64 p.eD,d,e] 55 (Loc.refl hs)
  have f1:=bO (dr:=false) (st:=true) (c86 hd (by omega)) (cU (Is.az hd)) l1.wm
  unfold Pm.formed
  by_cases h1:p.parts.length=p.boxes.length
  ·by_cases h2:p.dU≤p.eD
   ·simp (disch:=omega) only [st,si,gS,dt,e1,cS,b1.r5,hd.len,he.len]
    rw [decide_eq_true h2]
    simp (disch:=omega) only [st,gS,f1]
    rw [aO rfl (by omega) l1.fx,decide_eq_true h1];rfl
   ·simp (disch:=omega) only [st,si,gS,dt,e1,cS,b1.r5,hd.len,he.len]
    rw [decide_eq_false h2]
    simp (disch:=omega) only [st,gS]
    rw [aO rfl (by omega) l1.fx,Bool.false_and,Bool.and_false]
  ·simp (disch:=omega) only [st,si,gS,dt,e1,cS,b1.r5,hd.len,he.len]
   rw [aO rfl (by omega) l1.fx,decide_eq_false h1];rfl) (by omega)
theorem rF {cs:List V} (s:S) {n:Nat} (h:n≤cs.length):aD n s (.dS cs)=some (.agg (cs.take n)):=by
 have:=Q8 (cs:=cs) s (n:=0) (z:=n) (by omega)
 rwa [List.drop_zero] at this
theorem yn {cs:List V} {n:Nat} (h:n≤cs.length):aJ n (.dS cs)=some (.dS (cs.drop n)):=by
 have:Nat.ble n cs.length=true:=by rw [Nat.ble_eq];exact h
 simp only [aJ,mW,this]
theorem vS {bs:List Bx} {cs:List V} (h:iQ bs cs) {i:Nat} (hi:i<bs.length): ∃b a1 a2 a3 a4 b1 b2 b3 b4 c1 c2 c3 c4 d1 d2 d3 d4 q,bs[i]? =some b∧RB b [a1,a2,a3,a4,b1,b2,b3,b4,c1,c2,c3,c4,d1,d2,d3,d4]∧
  (∀s,aD 16 s (.dS (cs.drop (i*16)))=some (.agg [a1,a2,a3,a4,b1,b2,b3,b4,c1,c2,c3,c4,d1,d2,d3,d4]))∧aJ 0 (.dS (cs.drop (i*16)))=some (.dS (cs.drop (i*16)))∧(∀s,aD 8 s (.dS (cs.drop (i*16)))=some (.agg [a1,a2,a3,a4,b1,b2,b3,b4]))∧
  aJ 8 (.dS (cs.drop (i*16)))=some q∧ ∀s,aD 8 s q=some (.agg [c1,c2,c3,c4,d1,d2,d3,d4]):=by
 obtain ⟨b,h1,h2⟩:=h.at hi
 have hl:=h.atoms.2
 have hd:16≤(cs.drop (i*16)).length:=by rw [List.length_drop];omega
 have yw:=h2
 obtain ⟨a1,a2,a3,a4,b1,b2,b3,b4,c1,c2,c3,c4,d1,d2,d3,d4,he,_⟩:=h2
 rw [he] at yw
 refine ⟨b,a1,a2,a3,a4,b1,b2,b3,b4,c1,c2,c3,c4,d1,d2,d3,d4,.dS ((cs.drop (i*16)).drop 8),h1,yw,fun s=> ?_,?_,fun s=> ?_,yn (by omega),fun s=> ?_⟩
 ·rw [rF s hd,he]
 ·rw [yn (by omega),List.drop_zero]
 ·rw [rF s (by omega)]
  have:(cs.drop (i*16)).take 8=((cs.drop (i*16)).take 16).take 8:=by rw [List.take_take];congr 1
  rw [this,he];rfl
 ·rw [rF s (by rw [List.length_drop];omega)]
  have:((cs.drop (i*16)).drop 8).take 8=((cs.drop (i*16)).take 16).drop 8:=by rw [List.drop_take]
  rw [this,he];rfl
theorem jc {α:Type} {l:List α} {i:Nat} {x:α} (h:l[i]? =some x):l.take (i+1)=l.take i++ [x]:=by
 rw [List.take_add_one,h];rfl
theorem zG {a b c d:V} (ha:aR a=true) (hb:aR b=true) (hc:aR c=true) (hd:aR d=true):aI [(.int .i64 0),(.int .i64 0),(.int .i64 0),.ah,.ah] [(0,1,a),(1,1,b),(2,1,c),(3,1,d)]=some (.agg [a,b,c,d,.ah]):=by
 rw [ga ha _ _ (by simp),ga hb _ _ (by simp),ga hc _ _ (by simp),ga hd _ _ (by simp)];rfl
theorem I9 {s t:S} {b t1:Nat} {sl:Bool} {cs0:List V} {p:Pm} {d x:V} {e:Nat} {cs:List V} (h:dX s t b cs0 t1 sl) (hl:Loc s t) (h0:s.wm=s.n) (hc:cs0.length=5) (hd:Is .i64 d p.parts) (hx:Ow s t e 16 x p.boxes.length cs) (hr:iQ p.boxes cs) (hb:b∉aA x):
  bW s (RP p) (af (aq t (aB 5 (.ptr b 0) (.agg [.int .i64 p.host,.int .i64 p.dU,.int .i64 p.eD,d,x]) (aw t))) fun _ t'=>aC s t' [aD 5 t' (.ptr b 0)]):=by
 obtain ⟨t',e1,b1,l1,k1,_⟩:=h.put (l:= [.int .i64 p.host,.int .i64 p.dU,.int .i64 p.eD,d,x]) (z:=5) hl rfl hc (by show (true && (true && (true && (aR d && (aR x && true)))))=true;rw [Fs.aR hd,hx.aR];rfl)
 have hx':=hx.kp k1 (fun c hc h=>hb (by simpa using (List.mem_singleton.1 h) ▸ hc))
 obtain ⟨x',bs,h2,h3,rfl⟩:=hx'.fz hr.atoms.1
 rw [e1,bS,b1.r5.2.2.2.2.2]
 exact ⟨_,⟨d,x',cs,rfl,hd,h3,hr⟩,zH (.cons _ _ _ _ _ _ (.at _ rfl) (.cons _ _ _ _ _ _ (.at _ rfl) (.cons _ _ _ _ _ _ (.at _ rfl) (.cons _ _ _ _ _ _ (.at _ (Is.atom hd)) (.cons _ _ _ _ _ _ h2 .nil))))) h0 l1 (fun c hc=>by simp only [List.nil_append,List.append_nil] at hc;exact (hx.lo hc).1)⟩
theorem c17 {p:Pm} {a:V} (ha:RP p a) (Br:p.boxes.length≤50000):eL cx 17 [a] (RP p):=fun s hs=>
 (E17 (aE (by decide))).fD (p.boxes.length+1) (by
  obtain ⟨d,e,cs,rfl,hd,he,hr⟩:=ha
  show bW s _ (S7 cx _ (.agg [.int .i64 p.host,.int .i64 p.dU,.int .i64 p.eD,d,e]) s)
  unfold S7
  generalize hF:p.boxes.length+1=F
  obtain ⟨s1,e1,b1,l1,k1,n1⟩:=ca [.int .i64 p.host,.int .i64 p.dU,.int .i64 p.eD,d,e] 55 (Loc.refl hs)
  obtain ⟨s2,e2,b2,l2,k2,n2⟩:=ca [.int .i64 0,.int .i64 0,.int .i64 0,.ah,.ah] 37 l1
  have eX:=b1.kp k2 (by simp)
  have hfl:=zG (a:= .int .i64 p.host) (b:= .int .i64 p.dU) (c:= .int .i64 p.eD) (d:=d) rfl rfl rfl (Fs.aR hd)
  obtain ⟨s3,e3,b3,l3,k3,n3⟩:=cO (cs:= [.int .i64 0,.int .i64 0,.int .i64 0,.ah,.ah]) (l:= [.int .i64 p.host,.int .i64 p.dU,.int .i64 p.eD,d,.ah]) (t:=37) (z:=5) l2 rfl rfl (by show (true && (true && (true && (aR d && (true && true)))))=true;rw [Fs.aR hd];rfl)
  have yB:=b1.hi
  have Hz:=b2.hi
  simp (disch:=omega) only [jU,st,dt,e1,e2,cS,eX.r5,hfl]
  rw [e3]
  simp (disch:=omega) only [jU]
  refine aP (bW s _) (fun k vs t=> ∃(i:Nat) (x:V) (Ha:List V),vs= [.int .i64 i,.ptr s.n 0,.ptr s2.n 0,.ptr s1.n 0]∧Loc s t∧dX s t s.n [.int .i64 p.host,.int .i64 p.dU,.int .i64 p.eD,d,e] 55 false∧dX s t s2.n [.int .i64 p.host,.int .i64 p.dU,.int .i64 p.eD,d,x] 37 false∧
   dX s t s1.n [.int .i64 0,.int .i64 0,.int .i64 0,.ah,.ah] 37 false∧Ow s t 49 16 x (p.boxes.take i).length Ha∧(∀c,c∈aA x→s3.n≤c)∧iQ (p.boxes.take i) Ha∧i+k=p.boxes.length) ?_ _ p.boxes.length _ _
   ⟨0,.ah, [],rfl,l3,eX.kp k3 (by simp),b3,b2.kp k3 (by simp),.nil,(fun c h=>by cases h),.nil,by omega⟩ (by omega)
  rintro ih k _ t ⟨i,x,Ha,rfl,hlt,q1,q2,q3,ho,lA,IU,DX⟩ eZ
  by_cases hi:i<p.boxes.length
  ·obtain ⟨b,a1,a2,a3,a4,b1,b2,b3,b4,c1,c2,c3,c4,d1,d2,d3,d4,q,hb,qh,_,f1,f2,f3,f4⟩:=vS hr hi
   have mM:=he.ix .i64 (i:=(i:Int)) (by omega) (by omega)
   rw [Int.toNat_natCast] at mM
   have DT:aI [.bool false,.ah,.bool false,.ah,.bool false,.ah,.bool false,.ah,.bool false,.ah,.bool false,.ah,.bool false,.ah,.bool false,.ah] [(0,8,.agg [a1,a2,a3,a4,b1,b2,b3,b4]),(8,8,.agg [c1,c2,c3,c4,d1,d2,d3,d4])]=
     some (.agg [a1,a2,a3,a4,b1,b2,b3,b4,c1,c2,c3,c4,d1,d2,d3,d4]):=rfl
   have yA:aI (bz 1 [.bool false,.ah,.bool false,.ah,.bool false,.ah,.bool false,.ah,.bool false,.ah,.bool false,.ah,.bool false,.ah,.bool false,.ah]) [(0,16,.agg [a1,a2,a3,a4,b1,b2,b3,b4,c1,c2,c3,c4,d1,d2,d3,d4])]=
     some (.agg [a1,a2,a3,a4,b1,b2,b3,b4,c1,c2,c3,c4,d1,d2,d3,d4]):=rfl
   have IV:(p.boxes.take i).length=i:=by rw [List.length_take];omega
   obtain ⟨x',t1,g1,o1,m1,j1,h1⟩:=ug (te:=mP) (e:=49) hlt ho yA rfl (ew qh.atoms.1) rfl (by decide) (by rw [show mP.bytes=256 from rfl,IV];omega)
   have HE:=q2.hi
   have nx: ∀n,n≤s2.n→n∉aA x:=fun n hn h=>by have:=lA _ h;omega
   have Zw:=q1.kp j1 (nx _ (by omega))
   have Zx:=q2.kp j1 (nx _ (by omega))
   have RD:=q3.kp j1 (nx _ (by omega))
   obtain ⟨t2,g2,LO,m2,j2,_⟩:=Zx.qo (j:=4) (x:=x') m1 (by simp) o1.aR
   have Ek: ∀c,c∈aA x'→s3.n≤c:=fun c hc=>(h1 c hc).elim (lA c) (fun h=>by omega)
   simp (disch:=omega) only [jU,st,si,cS,q1.r5,q2.r5,he.len,mM,f1,f2,f3,f4,DT]
   rw [g1]
   simp (disch:=omega) only [st,cS,g2,jU,si,br]
   refine eZ (k - 1) _ _ (by omega) ⟨i+1,x',Ha++ [a1,a2,a3,a4,b1,b2,b3,b4,c1,c2,c3,c4,d1,d2,d3,d4],rfl,m2,Zw.kp j2 (by simp;omega),LO,RD.kp j2 (by simp;omega),?_,Ek,?_,by omega⟩
   ·rw [jc hb,List.length_append]
    exact o1.kp j2 (fun c hc h=>by have:=Ek c hc;simp at h;omega)
   ·rw [jc hb];exact IU.app (iQ.one qh)
  ·rw [List.take_of_length_le (by omega)] at ho IU
   simp (disch:=omega) only [jU,st,si,cS,q1.r5,q2.r5,he.len]
   exact I9 q3 hlt hs rfl hd ho IU (fun h=>by have:=lA _ h;omega)) (by omega)
theorem c12 {p:Pm} {a:V} (ha:RP p a) (Br:p.boxes.length≤50000):eL cx 12 [a] (RP p):=fun s hs=>
 (E12 (aE (by decide))).fD (p.boxes.length+1) (by
  obtain ⟨d,e,cs,rfl,hd,he,hr⟩:=ha
  show bW s _ (Vw cx _ (.agg [.int .i64 p.host,.int .i64 p.dU,.int .i64 p.eD,d,e]) s)
  unfold Vw
  generalize hF:p.boxes.length+1=F
  obtain ⟨s1,e1,b1,l1,k1,n1⟩:=ca [.int .i64 p.host,.int .i64 p.dU,.int .i64 p.eD,d,e] 37 (Loc.refl hs)
  obtain ⟨s2,e2,b2,l2,k2,n2⟩:=ca [.int .i64 0,.int .i64 0,.int .i64 0,.ah,.ah] 55 l1
  have eX:=b1.kp k2 (by simp)
  have hfl:=zG (a:= .int .i64 p.host) (b:= .int .i64 p.dU) (c:= .int .i64 p.eD) (d:=d) rfl rfl rfl (Fs.aR hd)
  obtain ⟨s3,e3,b3,l3,k3,n3⟩:=cO (cs:= [.int .i64 0,.int .i64 0,.int .i64 0,.ah,.ah]) (l:= [.int .i64 p.host,.int .i64 p.dU,.int .i64 p.eD,d,.ah]) (t:=55) (z:=5) l2 rfl rfl (by show (true && (true && (true && (aR d && (true && true)))))=true;rw [Fs.aR hd];rfl)
  have yB:=b1.hi
  have Hz:=b2.hi
  simp (disch:=omega) only [jU,st,dt,e1,e2,cS,eX.r5,hfl]
  rw [e3]
  simp (disch:=omega) only [jU]
  refine aP (bW s _) (fun k vs t=> ∃(i:Nat) (x:V) (Ha:List V),vs= [.int .i64 i,.ptr s.n 0,.ptr s2.n 0,.ptr s1.n 0]∧Loc s t∧dX s t s.n [.int .i64 p.host,.int .i64 p.dU,.int .i64 p.eD,d,e] 37 false∧dX s t s2.n [.int .i64 p.host,.int .i64 p.dU,.int .i64 p.eD,d,x] 55 false∧
   dX s t s1.n [.int .i64 0,.int .i64 0,.int .i64 0,.ah,.ah] 55 false∧Ow s t 108 16 x (p.boxes.take i).length Ha∧(∀c,c∈aA x→s3.n≤c)∧iQ (p.boxes.take i) Ha∧i+k=p.boxes.length) ?_ _ p.boxes.length _ _
   ⟨0,.ah, [],rfl,l3,eX.kp k3 (by simp),b3,b2.kp k3 (by simp),.nil,(fun c h=>by cases h),.nil,by omega⟩ (by omega)
  rintro ih k _ t ⟨i,x,Ha,rfl,hlt,q1,q2,q3,ho,lA,IU,DX⟩ eZ
  by_cases hi:i<p.boxes.length
  ·obtain ⟨b,a1,a2,a3,a4,b1,b2,b3,b4,c1,c2,c3,c4,d1,d2,d3,d4,q,hb,qh,_,f1,f2,f3,f4⟩:=vS hr hi
   have mM:=he.ix .i64 (i:=(i:Int)) (by omega) (by omega)
   rw [Int.toNat_natCast] at mM
   have DT:aI [.bool false,.ah,.bool false,.ah,.bool false,.ah,.bool false,.ah,.bool false,.ah,.bool false,.ah,.bool false,.ah,.bool false,.ah] [(0,8,.agg [a1,a2,a3,a4,b1,b2,b3,b4]),(8,8,.agg [c1,c2,c3,c4,d1,d2,d3,d4])]=
     some (.agg [a1,a2,a3,a4,b1,b2,b3,b4,c1,c2,c3,c4,d1,d2,d3,d4]):=rfl
   have yA:aI (bz 1 [.bool false,.ah,.bool false,.ah,.bool false,.ah,.bool false,.ah,.bool false,.ah,.bool false,.ah,.bool false,.ah,.bool false,.ah]) [(0,16,.agg [a1,a2,a3,a4,b1,b2,b3,b4,c1,c2,c3,c4,d1,d2,d3,d4])]=
     some (.agg [a1,a2,a3,a4,b1,b2,b3,b4,c1,c2,c3,c4,d1,d2,d3,d4]):=rfl
   have IV:(p.boxes.take i).length=i:=by rw [List.length_take];omega
   obtain ⟨x',t1,g1,o1,m1,j1,h1⟩:=ug (te:=sw) (e:=108) hlt ho yA rfl (ew qh.atoms.1) rfl (by decide) (by rw [show sw.bytes=256 from rfl,IV];omega)
   have HE:=q2.hi
   have nx: ∀n,n≤s2.n→n∉aA x:=fun n hn h=>by have:=lA _ h;omega
   have Zw:=q1.kp j1 (nx _ (by omega))
   have Zx:=q2.kp j1 (nx _ (by omega))
   have RD:=q3.kp j1 (nx _ (by omega))
   obtain ⟨t2,g2,LO,m2,j2,_⟩:=Zx.qo (j:=4) (x:=x') m1 (by simp) o1.aR
   have Ek: ∀c,c∈aA x'→s3.n≤c:=fun c hc=>(h1 c hc).elim (lA c) (fun h=>by omega)
   simp (disch:=omega) only [jU,st,si,cS,q1.r5,q2.r5,he.len,mM,f1,f2,f3,f4,DT]
   rw [g1]
   simp (disch:=omega) only [st,cS,g2,jU,si,br]
   refine eZ (k - 1) _ _ (by omega) ⟨i+1,x',Ha++ [a1,a2,a3,a4,b1,b2,b3,b4,c1,c2,c3,c4,d1,d2,d3,d4],rfl,m2,Zw.kp j2 (by simp;omega),LO,RD.kp j2 (by simp;omega),?_,Ek,?_,by omega⟩
   ·rw [jc hb,List.length_append]
    exact o1.kp j2 (fun c hc h=>by have:=Ek c hc;simp at h;omega)
   ·rw [jc hb];exact IU.app (iQ.one qh)
  ·rw [List.take_of_length_le (by omega)] at ho IU
   simp (disch:=omega) only [jU,st,si,cS,q1.r5,q2.r5,he.len]
   exact I9 q3 hlt hs rfl hd ho IU (fun h=>by have:=lA _ h;omega)) (by omega)
theorem c18 {p:Pm} {a:V} (ha:RP p a) (yD:p.parts.length≤50000) (Br:p.boxes.length≤50000):jK cx 18 [a] (.bool p.formed):=fun s hs=>
 (E18 (aE (by decide))).run (p.parts.length+1) (by
  obtain ⟨d,e,cs,rfl,hd,he,hr⟩:=ha
  show Vx cx _ (.agg [.int .i64 p.host,.int .i64 p.dU,.int .i64 p.eD,d,e]) s=_
  unfold Vx
  generalize hF:p.parts.length+1=F
  obtain ⟨s1,e1,b1,l1,k1,n1⟩:=ca [.int .i64 p.host,.int .i64 p.dU,.int .i64 p.eD,d,e] 37 (Loc.refl hs)
  unfold Pm.formed
  by_cases h1:p.parts.length=p.boxes.length
  ·by_cases h2:p.dU≤p.eD
   ·rw [decide_eq_true h1,decide_eq_true h2]
    simp (disch:=omega) only [jE,st,si,gS,dt,e1,cS,b1.r5,hd.len,he.len]
    refine aP (fun r=>r=_) (fun k vs t=> ∃i:Nat,vs= [.int .i64 i,.ptr s.n 0]∧s1=t∧i+k=p.parts.length∧(List.range i).all (gZ p.parts)=true) ?_ _ p.parts.length _ _ ⟨0,rfl,rfl,by omega,rfl⟩ (by omega)
    rintro ih k _ _ ⟨i,rfl,rfl,hk,gh⟩ eZ
    by_cases hi:i<p.parts.length
    ·have bad: ∀ {x:Bool},gZ p.parts i=false→aC s s1 [some (.bool false)]=some (.bool (true && (true && rC p.parts)),s):=fun h=>by
      rw [aO rfl (by omega) l1.fx,rD hi h];rfl
     by_cases h1:p.parts.getD i 0<0
     ·simp (disch:=omega) only [jE,st,si,gS,cS,b1.r5,hd.len,hd.ix,dW,Int.toNat_natCast]
      exact bad (x:=true) (by unfold gZ;rw [decide_eq_false (by omega)];rfl)
     ·by_cases h0:i=0
      ·simp (disch:=omega) only [jE,st,si,gS,cS,b1.r5,hd.len,hd.ix,dW,Int.toNat_natCast,br]
       exact eZ (k - 1) _ _ (by omega) ⟨i+1,rfl,rfl,by omega,lZ gh (by unfold gZ;rw [decide_eq_true (by omega),decide_eq_true h0];rfl)⟩
      ·have hT:((i:Int) - 1).toNat=i - 1:=by omega
       by_cases h2:p.parts.getD i 0≤p.parts.getD (i - 1) 0
       ·simp (disch:=omega) only [jE,st,si,gS,cS,b1.r5,hd.len,hd.ix,dW,Int.toNat_natCast,br,hT]
        exact bad (x:=true) (by unfold gZ;rw [decide_eq_false h0,decide_eq_false (show ¬p.parts.getD (i - 1) 0<p.parts.getD i 0 by omega)];simp)
       ·simp (disch:=omega) only [jE,st,si,gS,cS,b1.r5,hd.len,hd.ix,dW,Int.toNat_natCast,br,hT]
        exact eZ (k - 1) _ _ (by omega) ⟨i+1,rfl,rfl,by omega,lZ gh (by unfold gZ;rw [decide_eq_true (show 0≤p.parts.getD i 0 by omega),decide_eq_true (show p.parts.getD (i - 1) 0<p.parts.getD i 0 by omega)];simp)⟩
    ·have:i=p.parts.length:=by omega
     subst this
     simp (disch:=omega) only [jE,st,si,gS,cS,b1.r5,hd.len]
     rw [aO rfl (by omega) l1.fx]
     unfold rC
     rw [gh];rfl
   ·simp (disch:=omega) only [jE,st,si,gS,dt,e1,cS,b1.r5,hd.len,he.len]
    rw [aO rfl (by omega) l1.fx,decide_eq_false h2,Bool.false_and,Bool.and_false]
  ·simp (disch:=omega) only [jE,st,si,gS,dt,e1,cS,b1.r5,hd.len,he.len]
   rw [aO rfl (by omega) l1.fx,decide_eq_false h1];rfl) (by omega)
theorem c16 {p:Pm} {a a':V} (ha:RP p a) (lj:RP p a') (hp:p.ok):jK cx 16 [a,a'] (.bool true):=fun s hs=>
 (E16 (aE (by decide))).run (p.boxes.length+1) (by
  have yD:=hp.lp
  have Br:=hp.lb
  obtain ⟨d,e,cs,rfl,hd,he,hr⟩:=ha
  obtain ⟨d',e',cs',rfl,gj,he',Al⟩:=lj
  show S6 cx _ (.agg [.int .i64 p.host,.int .i64 p.dU,.int .i64 p.eD,d,e]) (.agg [.int .i64 p.host,.int .i64 p.dU,.int .i64 p.eD,d',e']) s=_
  unfold S6
  generalize hF:p.boxes.length+1=F
  obtain ⟨s1,e1,b1,l1,k1,n1⟩:=ca [.int .i64 p.host,.int .i64 p.dU,.int .i64 p.eD,d,e] 37 (Loc.refl hs)
  obtain ⟨s2,e2,b2,l2,k2,n2⟩:=ca [.int .i64 p.host,.int .i64 p.dU,.int .i64 p.eD,d',e'] 37 l1
  have eX:=b1.kp k2 (by simp)
  have f1:=bO (dr:=false) (st:=true) (c47 hd gj (by omega)) (cC (Is.az hd) (Is.az gj)) l2.wm
  rw [decide_eq_true rfl] at f1
  simp (disch:=omega) only [jE,st,si,gS,dt,e1,e2,cS,eX.r5,b2.r5,f1,ea,Bool.not_true,he.len,he'.len,ne_eq,not_true_eq_false,decide_false]
  refine aP (fun r=>r=_) (fun k vs t=> ∃i:Nat,vs= [.int .i64 i,.ptr s.n 0,.ptr s1.n 0]∧s2=t∧i+k=p.boxes.length) ?_ _ p.boxes.length _ _ ⟨0,rfl,rfl,by omega⟩ (by omega)
  rintro ih k _ _ ⟨i,rfl,rfl,hk⟩ eZ
  by_cases hi:i<p.boxes.length
  ·obtain ⟨b,x1,x2,x3,x4,x5,x6,x7,x8,x9,x10,x11,x12,x13,x14,x15,x16,q,hb,qh,g0,g1,g2,g3,g4⟩:=vS hr hi
   obtain ⟨b',y1,y2,y3,y4,y5,y6,y7,y8,y9,y10,y11,y12,y13,y14,y15,y16,q',gY,Bk,g0',Ca,FL,g3',Pt⟩:=vS Al hi
   rw [hb] at gY
   obtain rfl:=Option.some.inj gY
   have mM:=he.ix .i64 (i:=(i:Int)) (by omega) (by omega)
   have HA:=he'.ix .i64 (i:=(i:Int)) (by omega) (by omega)
   rw [Int.toNat_natCast] at mM HA
   have f2:=bO (dr:=true) (st:=false) (c48 (hp.boxes b (List.mem_of_getElem? hb)) qh Bk) (cC qh.atoms.1 Bk.atoms.1) l2.wm
   simp (disch:=omega) only [jE,st,si,gS,cS,eX.r5,b2.r5,he.len,mM,HA,g0,g0',f2,ea,Bool.not_true,br]
   exact eZ (k - 1) _ _ (by omega) ⟨i+1,rfl,rfl,by omega⟩
  ·simp (disch:=omega) only [jE,st,si,cS,eX.r5,he.len]
   exact aO rfl (by omega) l2.fx) (by omega)
theorem JR {cf:CF} {dr st:Bool} {f:Nat} {args:List V} {s₀ s:S} {e:Nat} {P:List Bx→Prop} (hl:Loc s₀ s) (ha:args.all cm=true) (hc: ∀s:S,s.wm=s.n→qR s e P (cf f args s)):
  ∃bs cs,P bs∧iQ bs cs∧ ∃v s',au cf dr st (.fn f [] []) args s=some (v,s')∧Ow s₀ s' e 16 v bs.length cs∧Loc s₀ s'∧Kp s s' []∧(∀b,b∈aA v→s.n≤b):=by
 obtain ⟨bs,cs,hp,hr,h⟩:=hc (aw s) rfl
 obtain ⟨v,s',h1,h2,h3,h4,h5,_⟩:=ya (dr:=dr) (st:=st) hl (bK.ats _ ha) (fun b hb=>by cases hb) (fun _ _=>rfl) h hr.atoms.2
 exact ⟨bs,cs,hp,hr,v,s',h1,h2,h3,h4,h5⟩
theorem Ow.box {s₀ s:S} {e l:Nat} {v:V} {cs:List V} (h:Ow s₀ s e 16 v l cs) (k:IntKind) {i:Int} (h0:0≤i) (h1:i<l): ∃b,v= .sl b 0 l l 16∧ck 16 v (.int k i)=some (.ptr b (i.toNat*16))∧aD 16 s (.ptr b (i.toNat*16))=some (.agg ((cs.drop (i.toNat*16)).take 16)):=by
 cases h with
 |nil=>omega
 |aF b l cs bL h hl=>exact ⟨b,rfl,by rw [ma k h0 h1,Nat.zero_add],eV h.rd (by omega)⟩
theorem dX.xj {s₀ s:S} {b t j:Nat} {bL:Bool} {cs:List V} {x:V} {r w:Reach} (h:dX s₀ s b cs t bL) (hl:Loc s₀ s) (hj:j<cs.length) (hx:aR x=true):
  ∃s',dD r w s (aB 1 (.ptr b j) x (aw s))=some (.bad,s',⟨⟨r,w,s.n,s.n⟩, []⟩)∧dX s₀ s' b (cs.set j x) t bL∧Loc s₀ s'∧Kp s s' [b]∧s'.n=s.n:=by
 obtain ⟨s',e1,b1,l1,k1,n1⟩:=h.qo hl hj hx
 have hi:=h.hi
 have hw:=kh (s:=aw s) h.get (j:=j) (l:= [x]) (by simp;omega) (by simp [hx])
 rw [AH hx,hw] at e1 ⊢
 refine ⟨s',?_,b1,l1,k1,n1⟩
 simp only [aq,Option.some.injEq,Prod.mk.injEq,true_and] at e1
 unfold dD
 have hlt:Nat.blt (min (aw s).wm b) s.n=true:=by rw [Nat.blt_eq];simp only [aw];omega
 simp only [hlt]
 rw [e1]
 rfl
theorem LY {s t:S} {b t1:Nat} {sl:Bool} {cs0:List V} {p:Pm} {d x:V} {e e':Nat} {cs:List V} (h:dX s t b cs0 t1 sl) (hl:Loc s t) (h0:s.wm=s.n) (hc:cs0.length=5) (hd:Ow s t e' 1 d p.parts.length (dk p.parts)) (hx:Ow s t e 16 x p.boxes.length cs) (hr:iQ p.boxes cs) (hb:b∉aA x) (gY:b∉aA d):
  bW s (RP p) (af (aq t (aB 5 (.ptr b 0) (.agg [.int .i64 p.host,.int .i64 p.dU,.int .i64 p.eD,d,x]) (aw t))) fun _ t'=>aC s t' [aD 5 t' (.ptr b 0)]):=by
 obtain ⟨t',e1,b1,l1,k1,_⟩:=h.put (l:= [.int .i64 p.host,.int .i64 p.dU,.int .i64 p.eD,d,x]) (z:=5) hl rfl hc (by show (true && (true && (true && (aR d && (aR x && true)))))=true;rw [hd.aR,hx.aR];rfl)
 have hx':=hx.kp k1 (fun c hc h=>hb (by simpa using (List.mem_singleton.1 h) ▸ hc))
 have gj:=hd.kp k1 (fun c hc h=>gY (by simpa using (List.mem_singleton.1 h) ▸ hc))
 obtain ⟨x',bs,h2,h3,rfl⟩:=hx'.fz hr.atoms.1
 obtain ⟨d',bs,h4,h5,rfl⟩:=gj.fz (aS _ _)
 rw [e1,bS,b1.r5.2.2.2.2.2]
 exact ⟨_,⟨d',x',cs,rfl,h5,h3,hr⟩,zH (.cons _ _ _ _ _ _ (.at _ rfl) (.cons _ _ _ _ _ _ (.at _ rfl) (.cons _ _ _ _ _ _ (.at _ rfl) (.cons _ _ _ _ _ _ h4 (.cons _ _ _ _ _ _ h2 .nil))))) h0 l1 (fun c hc=>by
  simp only [List.nil_append,List.append_nil] at hc
  exact (List.mem_append.1 hc).elim (fun h=>(hd.lo h).1) (fun h=>(hx.lo h).1))⟩
theorem rm {l:List Int} {x:Int} {i:Nat} (h:i<l.length):(l++ [x]).getD i 0=l.getD i 0:=by simp [List.getD_eq_getElem?_getD,List.getElem?_append_left h]
theorem tr {l:List Int} {x:Int} :(l++ [x]).getD l.length 0=x:=by simp [List.getD_eq_getElem?_getD]
theorem En {l:List Int} {x:Int} (h:rC l=true) (h0:0≤x) (hx:l.length=0∨l.getD (l.length - 1) 0<x):rC (l++ [x])=true:=by
 unfold rC at h ⊢
 rw [List.length_append]
 refine lZ (l:=l++ [x]) (i:=l.length) ?_ ?_
 ·rw [List.all_eq_true] at h ⊢
  intro i hi
  rw [←h i hi]
  have hi':=List.mem_range.1 hi
  unfold gZ
  rw [rm hi',rm (i:=i - 1) (by omega)]
 ·unfold gZ
  rw [tr,decide_eq_true h0]
  rcases hx with h|h
  ·rw [decide_eq_true h];rfl
  ·by_cases hl:l.length=0
   ·rw [decide_eq_true hl];rfl
   ·rw [rm (by omega),decide_eq_true h];simp
structure Pm.sm (p:Pm):Prop where
 host:0≤p.host∧p.host≤1000
 dU:0≤p.dU∧p.dU≤1000
 eD:0≤p.eD∧p.eD≤1000
 parts: ∀x,x∈p.parts→0≤x∧x≤1000
 boxes: ∀b,b∈p.boxes→b.sm
 lp:p.parts.length≤4
 lb:p.boxes.length≤4
theorem Pm.sm.ok {p:Pm} (h:p.sm):p.ok:=by
 obtain ⟨h1,h2,h3,h4,h5,h6,h7⟩:=h
 exact ⟨by unfold fk;omega,by unfold fk;omega,by unfold fk;omega,fun x hx=>by have:=h4 x hx;unfold fk;omega,fun b hb=>(h5 b hb).ok,by omega,by omega⟩
theorem c7 {v:V} {l:List Int} (hv:Is .i64 v l) (hlr: ∀x,x∈l→fk x):eL cx 7 [v] (fun r=> ∃p:Pm,RP p r∧p.sm∧p.formed=true):=fun s hs=>
 (E7 (aE (by decide))).fD 6 (by
  show bW s _ (F7 cx _ v s)
  unfold F7
  generalize hF:6=F
  have a3: ∀i j:Int,([v,.int .i64 i,.int .i64 j]:List V).all az=true:=fun i j=>by simp only [List.all_cons,List.all_nil,hv.az];rfl
  have TF: ∀(i m:Int),0≤i→i≤100→0<m→m≤100→jK cx 29 [v,.int .i64 i,.int .i64 m] (.int .i64 (xN l i m)):=fun i m h0 h1 h2 h3=>Wj hv hlr i m (by omega) (by omega)
  obtain ⟨s1,e1,b1,l1,k1,n1⟩:=ca [.int .i64 0,.int .i64 0,.int .i64 0,.ah,.ah] 37 (Loc.refl hs)
  obtain ⟨bx,cs,⟨z9,Hp⟩,Eb,xb,s2,e2,ob,l2,k2,g2⟩:=JR (cf:=cx) (f:=39) (dr:=false) (st:=false) (args:= [v]) l1 (by rw [List.all_cons,Fs.cm hv];rfl) (c39 hv hlr)
  have f1:=bO (dr:=false) (st:=true) (TF 0 6 (by omega) (by omega) (by omega) (by omega)) (a3 _ _) l2.wm
  have f2:=bO (dr:=false) (st:=true) (TF 1 20 (by omega) (by omega) (by omega) (by omega)) (a3 _ _) l2.wm
  have r1:=mr (l:=l) (i:=0) (m:=6) (by omega)
  have r2:=mr (l:=l) (i:=1) (m:=20) (by omega)
  have r3:=mr (l:=l) (i:=2) (m:=9) (by omega)
  obtain ⟨s3,e3,b3,l3,k3,n3⟩:=cO (cs:= [.int .i64 0,.int .i64 0,.int .i64 0,.ah,.ah]) (l:= [.int .i64 (xN l 0 6),.int .i64 (xN l 1 20),.int .i64 0,.ah,.ah]) (t:=37) (z:=5) l2 rfl rfl rfl
  have f3:=jz (TF 2 9 (by omega) (by omega) (by omega) (by omega)) (a3 _ _) l3.wm
  have hfl:aI [.int .i64 0,.int .i64 0,.int .i64 0,.ah,.ah] [(0,1,.int .i64 (xN l 0 6)),(1,1,.int .i64 (xN l 1 20))]=some (.agg [.int .i64 (xN l 0 6),.int .i64 (xN l 1 20),.int .i64 0,.ah,.ah]):=rfl
  generalize xN l 0 6=host at*
  generalize xN l 1 20=dU at*
  generalize xN l 2 9=Ph at*
  obtain ⟨s4,f4,b4,l4,k4,n4⟩:=b3.xj (j:=2) (x:= .int .i64 (dU+Ph)) (r:=some (ag.aF (.ptr s2.n 2))) (w:=some (ag.aF (.ptr s2.n 2))) l3 (by simp) rfl
  have yB:=b1.hi
  have Qe:=b3.hi
  have hk2:=k2.1
  have oP: ∀c,c∈aA xb→s1.n≤c∧c<s2.n:=fun c hc=>⟨g2 c hc,(ob.lo hc).2⟩
  simp (disch:=omega) only [jU,st,si,sf,e1,e2,f1,f2,hfl]
  rw [e3]
  simp (disch:=omega) only [jU,st,si,sf,cS,b3.r5,f3,br,f4]
  refine wU (vA (fl:= [_,_,_,_,_,_]) (b:=s2.n) 6 rfl (by decide) (by repeat' first|exact trivial|apply Qs.c0)) ?_
  simp (disch:=omega) only [jU]
  have ob4:Ow s s4 49 16 xb bx.length cs:=(ob.kp k3 (fun _ _=>by simp)).kp k4 (fun c hc h=>by have:=oP c hc;simp at h;omega)
  have eX:=((b1.kp k2 (by simp)).kp k3 (by simp)).kp k4 (by simp;omega)
  refine aP (bW s _) (fun k vs t=> ∃(i:Nat) (la:Int) (ps:List Int) (xp:V) (xq:V) (cq:List V),vs= [.int .i64 la,.int .i64 i,v,xb,.ptr s2.n 0,.ptr s.n 0]∧Loc s t∧Ow s t 49 16 xb bx.length cs∧dX s t s.n [.int .i64 0,.int .i64 0,.int .i64 0,.ah,.ah] 37 false∧
   dX s t s2.n [.int .i64 host,.int .i64 dU,.int .i64 (dU+Ph),xp,xq] 37 false∧Ow s t 3 1 xp ps.length (dk ps)∧Ow s t 49 16 xq i cq∧(∀c,c∈aA xp→s4.n≤c)∧(∀c,c∈aA xq→s4.n≤c)∧(∀c,c∈aA xp→c∉aA xq)∧ps.length=i∧iQ (bx.take i) cq∧rC ps=true∧
   (∀x,x∈ps→0≤x∧x≤la)∧(ps.length=0∧la= -1∨0<ps.length∧la=ps.getD (ps.length - 1) 0)∧ -1≤la∧la≤4*i∧i≤bx.length∧i≤4∧i+k=5) ?_ _ 5 _ _
   ⟨0, -1, [],.ah,.ah, [],rfl,l4,ob4,eX,b4,.nil,.nil,(fun c h=>by cases h),(fun c h=>by cases h),(fun c h=>by cases h),rfl,.nil,rfl,(fun c h=>by cases h),.inl ⟨rfl,rfl⟩,by omega,by omega,by omega,by omega,rfl⟩ (by omega)
  rintro ih k _ t ⟨i,la,ps,xp,xq,cq,rfl,hlt,UD,q1,q3,op,oq,Ut,QV,X7,Bw,hrq,Qg,hps,T8,aca,acb,KR,hi4,DX⟩ eZ
  have stop:bW s (fun r=> ∃p:Pm,RP p r∧p.sm∧p.formed=true) (af (aq t (aB 5 (.ptr s.n 0) (.agg [.int .i64 host,.int .i64 dU,.int .i64 (dU+Ph),xp,xq]) (aw t))) fun _ t'=>aC s t' [aD 5 t' (.ptr s.n 0)]):=by
   have IV:(bx.take i).length=i:=by rw [List.length_take];omega
   obtain ⟨r,hr,he⟩:=LY (p:=⟨host,dU,dU+Ph,ps,bx.take i⟩) (cs:=cq) q1 hlt hs rfl op (by simp only [IV];exact oq) hrq (fun h=>by have:=QV _ h;omega) (fun h=>by have:=Ut _ h;omega)
   refine ⟨r,⟨_,hr,⟨by simp only [];omega,by simp only [];omega,by simp only [];omega,fun x hx=>by have:=hps x hx;omega,fun b hb=>Hp b (List.mem_of_mem_take hb),by simp only [];omega,by simp only [];omega⟩,?_⟩,he⟩
   unfold Pm.formed
   simp only [IV,Bw,Qg]
   rw [decide_eq_true (show dU≤dU+Ph by omega)];rfl
  by_cases h1:i<bx.length
  ·by_cases h2:i<4
   ·have hk4:=l4.n
    have QA:=q3.hi
    have IU:=mr (l:=l) (i:=3+(i:Int)) (m:=3) (by omega)
    have f5:=bO (dr:=false) (st:=false) (TF (3+(i:Int)) 3 (by omega) (by omega) (by omega) (by omega)) (a3 _ _) hlt.wm
    generalize xN l (3+(i:Int)) 3=UL at*
    have XG:aI (bz 1 [.int .i64 0]) [(0,1,.int .i64 (la+1+UL))]=some (.agg [.int .i64 (la+1+UL)]):=rfl
    obtain ⟨Ji,t1,g1,op1,m1,j1,i1⟩:=ug (te:=iV) (e:=3) hlt op XG rfl rfl rfl (by decide) (by rw [show iV.bytes=8 from rfl];omega)
    have hnp: ∀n,n<s4.n→n∉aA xp:=fun n hn h=>by have:=Ut _ h;omega
    have hnq: ∀n,n<s4.n→n∉aA xq:=fun n hn h=>by have:=QV _ h;omega
    have hnb: ∀n,s2.n≤n→n∉aA xb:=fun n hn h=>by have:=oP _ h;omega
    have q3a:=q3.kp j1 (hnp _ (by omega))
    obtain ⟨t2,FL,q3b,m2,j2,_⟩:=q3a.qo (j:=3) (x:=Ji) m1 (by simp) op1.aR
    have BD: ∀c,c∈aA Ji→s4.n≤c:=fun c hc=>(i1 c hc).elim (Ut c) (fun h=>by omega)
    have Ru:Ow s t2 49 16 xb bx.length cs:=(UD.kp j1 (fun c hc h=>by have:=oP c hc;have:=Ut c h;omega)).kp j2 (fun c hc h=>by have:=oP c hc;simp at h;omega)
    have op2:=op1.kp j2 (fun c hc h=>by have:=BD c hc;simp at h;omega)
    have oq2:Ow s t2 49 16 xq i cq:=(oq.kp j1 (fun c hc h=>X7 c h hc)).kp j2 (fun c hc h=>by have:=QV c hc;simp at h;omega)
    have q1b:=(q1.kp j1 (hnp _ (by omega))).kp j2 (by simp;omega)
    obtain ⟨bb,PS,mM,vF⟩:=Ru.box .i64 (i:=(i:Int)) (by omega) (by omega)
    rw [Int.toNat_natCast] at mM vF
    obtain ⟨b,Bo,qh⟩:=Eb.at h1
    have Bk:=qh
    obtain ⟨a1,a2,MK,a4,c1,c2,c3,c4,d1,d2,d3,d4,u1,u2,u3,u4,hcell,_⟩:=qh
    rw [hcell] at Bk vF
    have yA:aI (bz 1 [.bool false,.ah,.bool false,.ah,.bool false,.ah,.bool false,.ah,.bool false,.ah,.bool false,.ah,.bool false,.ah,.bool false,.ah]) [(0,16,.agg [a1,a2,MK,a4,c1,c2,c3,c4,d1,d2,d3,d4,u1,u2,u3,u4])]=
     some (.agg [a1,a2,MK,a4,c1,c2,c3,c4,d1,d2,d3,d4,u1,u2,u3,u4]):=rfl
    obtain ⟨F0,t3,g3,oq3,m3,j3,i3⟩:=ug (te:=mP) (e:=49) m2 oq2 yA rfl (ew Bk.atoms.1) rfl (by decide) (by rw [show mP.bytes=256 from rfl];omega)
    have QW: ∀c,c∈aA F0→s4.n≤c:=fun c hc=>(i3 c hc).elim (QV c) (fun h=>by have:=j1.1;have:=j2.1;omega)
    have q3c:=q3b.kp j3 (hnq _ (by omega))
    obtain ⟨t4,g4,q3d,m4,j4,_⟩:=q3c.qo (j:=4) (x:=F0) m3 (by simp) oq3.aR
    have hj1:=j1.1
    have hj2:=j2.1
    simp (disch:=omega) only [jU,st,si,ob4.len,UD.len,br,f5,cS,q3.r5]
    rw [g1]
    simp (disch:=omega) only [jU,st,si,cS,FL,q3b.r5,List.set,mM,vF]
    rw [g3]
    simp (disch:=omega) only [jU,st,si,cS,g4,br]
    have op4:=(op2.kp j3 (fun c hc h=>by
     rcases i1 c hc with h'|h'
     ·exact X7 c h' h
     ·have:=(oq.lo h).2;omega)).kp j4 (fun c hc h=>by have:=BD c hc;simp at h;omega)
    have oq4:=oq3.kp j4 (fun c hc h=>by have:=QW c hc;simp at h;omega)
    have q1d:=(q1b.kp j3 (hnq _ (by omega))).kp j4 (by simp;omega)
    have Zg:=(Ru.kp j3 (fun c hc h=>by have:=oP c hc;have:=QV c h;omega)).kp j4 (fun c hc h=>by have:=oP c hc;simp at h;omega)
    refine eZ (k - 1) _ _ (by omega) ⟨i+1,la+1+UL,ps++ [la+1+UL],Ji,F0,cq++ [a1,a2,MK,a4,c1,c2,c3,c4,d1,d2,d3,d4,u1,u2,u3,u4],rfl,m4,Zg,q1d,q3d,by rw [List.length_append];simpa using op4,oq4,BD,QW,fun c hc h=> ?_,by rw [List.length_append];simp [Bw],?_,?_,fun x hx=> ?_,.inr ⟨by simp,?_⟩,by omega,by omega,by omega,by omega,by omega⟩
    ·rcases i3 c h with h'|h'
     ·rcases i1 c hc with h''|h''
      ·exact X7 c h'' h'
      ·have:=(oq.lo h').2;omega
     ·have:=(op2.lo hc).2;omega
    ·rw [jc Bo];exact hrq.app (iQ.one Bk)
    ·refine En Qg (by omega) ?_
     rcases T8 with ⟨h,_⟩|⟨_,h⟩
     ·exact .inl h
     ·exact .inr (by rw [←h];omega)
    ·rcases List.mem_append.1 hx with hx|hx
     ·have:=hps x hx;omega
     ·rw [List.mem_singleton] at hx;subst hx;omega
    ·rw [List.length_append];show _=(ps++ [_]).getD ps.length 0;rw [tr]
   ·simp (disch:=omega) only [jU,st,si,UD.len,q3.r5]
    exact stop
  ·simp (disch:=omega) only [jU,st,si,UD.len,q3.r5]
   exact stop) (by omega)
end Go.Vm.X
end
