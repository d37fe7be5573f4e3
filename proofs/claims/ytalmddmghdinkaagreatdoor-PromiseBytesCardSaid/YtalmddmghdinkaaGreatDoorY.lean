/-
  A part of the proof of PromiseBytes: lemmas, in short letters, printed by a program out of the longer texts; conditions: those that each lemma names.
-/
import Derived.Test.YtalmddmghdinkaaGreatDoorX
set_option linter.all false
set_option linter.deprecated false
noncomputable section
namespace Go.Vm.X
open Go Go.Vm Go.Proofs.bt
inductive FI:List (Int×Nat)→List V→Prop
 |nil:FI [] []
 |cons (x:Int×Nat) (a b c d:V) (xs:List (Int×Nat)) (cs:List V) (h:CR x.1 x.2 (.agg [a,b,c,d])) (hs:FI xs cs):FI (x::xs) (a::b::c::d::cs)
theorem FI.snoc {xs:List (Int×Nat)} {cs:List V} {x:Int×Nat} {a b c d:V} (h:FI xs cs) (hx:CR x.1 x.2 (.agg [a,b,c,d])):FI (xs++ [x]) (cs++ [a,b,c,d]):=by
 induction h with
 |nil=>exact .cons _ _ _ _ _ _ _ hx .nil
 |cons y a' b' c' d' xs cs h _ ih=>exact .cons _ _ _ _ _ _ _ h ih
def Nq (o:Option (Pm×Nat)) (v:V):Prop:=match o with
 |some (p,n)=> ∃a,v= .dQ [a,.int .i64 n,.int .i64 0]∧RP p a
 |none=>v= .dQ [.agg [.int .i64 0,.int .i64 0,.int .i64 0,.ah,.ah],.int .i64 0,.int .i64 2]
def sI (s₀ s:S) (x:V) (bs:List Bx):Prop:=(x= .ah∧bs= [])∨ ∃b cs,x= .sl b 0 bs.length bs.length 16∧s₀.n≤b∧b<s.n∧Rd s b cs∧iQ bs cs
theorem Ow.TQ {s₀ s:S} {e:Nat} {x:V} {bs:List Bx} {cs:List V} (h:Ow s₀ s e 16 x bs.length cs) (hr:iQ bs cs):sI s₀ s x bs:=by
 generalize hl:bs.length=l at h
 cases h with
 |nil=>exact .inl ⟨rfl,List.eq_nil_of_length_eq_zero hl⟩
 |aF b l cs bL h fg=>exact .inr ⟨b,cs,by rw [hl],h.lo,h.hi,h.rd,hr⟩
theorem sI.aR {s₀ s:S} {x:V} {bs:List Bx} (h:sI s₀ s x bs):X.aR x=true:=by
 rcases h with ⟨rfl,_⟩|⟨b,cs,rfl,_⟩<;>rfl
theorem sI.mono {s₀ s s':S} {x:V} {bs:List Bx} (h:sI s₀ s x bs) (hn:s.n≤s'.n) (hr: ∀c cs,Rd s c cs→c<s.n→c∈aA x→Rd s' c cs):sI s₀ s' x bs:=by
 rcases h with h|⟨b,cs,rfl,h1,h2,h3,h4⟩
 ·exact .inl h
 ·exact .inr ⟨b,cs,rfl,h1,by omega,hr b cs h3 h2 (by simp [aA]),h4⟩
theorem sI.kp {s₀ s s':S} {x:V} {bs:List Bx} {X:List Nat} (h:sI s₀ s x bs) (hk:Kp s s' X) (hx: ∀b,b∈aA x→b∉X):sI s₀ s' x bs:=
 h.mono hk.1 fun c cs' hr hc hb=>by
  obtain ⟨e,bL,own,hg⟩:=hr
  exact ⟨e,bL,own,by rw [hk.2 c hc (hx c hb)];exact hg⟩
theorem sI.fz {s₀ s:S} {x:V} {bs:List Bx} (h:sI s₀ s x bs): ∃x' bb cs,Fz s x x' bb∧Fs 16 x' bs.length cs∧iQ bs cs∧(∀b,b∈bb→s₀.n≤b)∧ ∀b,b∈bb→b∈aA x:=by
 rcases h with ⟨rfl,rfl⟩|⟨b,cs,rfl,h1,h2,⟨e,bL,own,hg⟩,h4⟩
 ·exact ⟨.ah, [], [],.at _ rfl,.nil,.nil,(fun b h=>by cases h),(fun b h=>by cases h)⟩
 ·have hl:=h4.atoms.2
  refine ⟨_,_,cs,.sl b 0 _ _ 16 cs cs e bL own hg (Nat.le_refl _) (by omega) (by rw [List.drop_zero,List.take_of_length_le (by omega)]) h4.atoms.1,.mk _ _ (by omega),h4,fun c hc=> ?_,fun c hc=> ?_⟩<;>(
   cases own<;>simp at hc
   subst hc
   first|exact h1|simp [aA])
theorem sI.aw {s₀ s:S} {x:V} {bs:List Bx} (h:sI s₀ s x bs):sI s₀ (X.aw s) x bs:=h
theorem sI.agg {s₀ s:S} {x d:V} {p:Pm} (h:sI s₀ s x p.boxes) (hd:Is .i64 d p.parts): ∃a' bb,xV s (.agg [.int .i64 p.host,.int .i64 p.dU,.int .i64 p.eD,d,x]) a' bb∧RP p a'∧(∀b,b∈bb→s₀.n≤b)∧ ∀b,b∈bb→b∈aA x:=by
 obtain ⟨x',bb,cs,h1,h2,h3,h4,h5⟩:=h.fz
 refine ⟨_, []++([]++([]++([]++(bb++ [])))),.agg _ _ _ (.cons _ _ _ _ _ _ (.at _ rfl) (.cons _ _ _ _ _ _ (.at _ rfl) (.cons _ _ _ _ _ _ (.at _ rfl) (.cons _ _ _ _ _ _ (.at _ (Is.atom hd)) (.cons _ _ _ _ _ _ h1 .nil))))),⟨d,x',cs,rfl,hd,h2,h3⟩,?_,?_⟩<;>simpa
theorem Fa {s t:S} {b t1:Nat} {sl:Bool} {cs0:List V} {p:Pm} {d x:V} {n:Nat} (h:dX s t b cs0 t1 sl) (hl:Loc s t) (h0:s.wm=s.n) (hc:cs0.length=5) (hd:Is .i64 d p.parts) (hx:sI s t x p.boxes) (hb:b∉aA x):
  bW s (Nq (some (p,n))) (af (aq t (aB 5 (.ptr b 0) (.agg [.int .i64 p.host,.int .i64 p.dU,.int .i64 p.eD,d,x]) (aw t))) fun _ t'=>aC s t' [aD 5 t' (.ptr b 0),some (.int .i64 n),some (.int .i64 0)]):=by
 obtain ⟨t',e1,b1,l1,k1,_⟩:=h.put (l:= [.int .i64 p.host,.int .i64 p.dU,.int .i64 p.eD,d,x]) (z:=5) hl rfl hc (by show (true && (true && (true && (aR d && (aR x && true)))))=true;rw [Fs.aR hd,hx.aR];rfl)
 obtain ⟨a',bb,h2,h3,h4,_⟩:=(hx.kp k1 (fun c hc h=>hb (by simpa using (List.mem_singleton.1 h) ▸ hc))).agg hd
 rw [e1,bS,b1.r5.2.2.2.2.2]
 refine ⟨_,⟨a',rfl,h3⟩,?_⟩
 exact th (l:= [.agg [.int .i64 p.host,.int .i64 p.dU,.int .i64 p.eD,d,x],.int .i64 n,.int .i64 0]) (l':= [a',.int .i64 n,.int .i64 0]) (bs:=bb++([]++([]++ []))) (.cons _ _ _ _ _ _ h2 (.cons _ _ _ _ _ _ (.one _ _ _ (.at _ rfl)) (.cons _ _ _ _ _ _ (.one _ _ _ (.at _ rfl)) .nil))) (by simp) h0 l1 (fun c hc=>by simp only [List.append_nil] at hc;exact h4 c hc)
theorem mU {s t:S} (hs:s.wm=s.n) (hlt:Loc s t) {b ty:Nat} (DJ:dX s t b [.int .i64 0,.int .i64 0,.int .i64 0,.ah,.ah] ty false): ∃t',aq t (aB 5 (.ptr b 0) (.agg [.int .i64 0,.int .i64 0,.int .i64 0,.ah,.ah]) (aw t))=some (.bad,t')∧
  aC s t' [aD 5 t' (.ptr b 0),some (.int .i64 0),some (.int .i64 2)]=some (.dQ [.agg [.int .i64 0,.int .i64 0,.int .i64 0,.ah,.ah],.int .i64 0,.int .i64 2],s):=by
 obtain ⟨t',f1,c1,m1,_,_⟩:=DJ.put (l:= [.int .i64 0,.int .i64 0,.int .i64 0,.ah,.ah]) (z:=5) hlt rfl rfl rfl
 exact ⟨t',f1,p7 c1 m1 hs rfl rfl⟩
theorem c27 {v:V} {b:List Int} (hv:Is .u8 v b) (hb:bytes b) (hlen:b.length≤40000):eL cx 27 [v] (Nq (dP b)):=fun s hs=>
 (E27 (aE (by decide))).fD (b.length+10) (by
  show bW s _ (VB cx _ v s)
  unfold VB
  generalize hF:b.length+10=F
  obtain ⟨s1,e1,b1,l1,k1,n1⟩:=ca [.int .i64 0,.int .i64 0,.int .i64 0,.ah,.ah] 37 (Loc.refl hs)
  obtain ⟨r1,⟨w,rfl,hw⟩,e2⟩:=aU (dr:=false) (st:=false) (Wp hv hb (by omega)) (cU hv.az) l1.wm
  have hL:=kC hb
  have yB:=b1.hi
  have hmk:=fun (bs:List Bx) (pos:Nat) h1 h2 h3 h4=>yL (bs:=bs) (pos:=pos) hb hlen h1 h2 h3 h4
  unfold dP
  generalize hA:gL b=A at*
  by_cases h1:A.2.2=0
  ·by_cases h2:A.1.length=3
   ·rw [if_neg (by omega),if_neg (by omega)]
    obtain ⟨w1,BC,lX⟩:=hv.BQ (q:= .i64) (lo:=A.2.1) (by omega) (by omega)
    have pq:=bP A.2.1.toNat hb
    have nD:(b.drop A.2.1.toNat).length=b.length - A.2.1.toNat:=List.length_drop
    obtain ⟨r2,⟨w2,rfl,vG⟩,e3⟩:=aU (dr:=false) (st:=false) (Wp lX pq (by omega)) (cU lX.az) l1.wm
    have PC:=kC pq
    generalize hC:gL (b.drop A.2.1.toNat)=C at*
    rw [nD] at PC
    by_cases h3:C.2.2=0
    ·rw [if_neg (by omega)]
     obtain ⟨Rf,Bu⟩:=Int.eq_ofNat_of_zero_le hL.2.1
     obtain ⟨Ng,Bv⟩:=Int.eq_ofNat_of_zero_le PC.2.1
     have Lr:aI [.int .i64 0,.int .i64 0,.int .i64 0,.ah,.ah] [(0,1,.int .i64 (A.1.getD 0 0)),(1,1,.int .i64 (A.1.getD 1 0)),(2,1,.int .i64 (A.1.getD 2 0)),(3,1,w2)]=some (.agg [.int .i64 (A.1.getD 0 0),.int .i64 (A.1.getD 1 0),.int .i64 (A.1.getD 2 0),w2,.ah]):=zG rfl rfl rfl (Fs.aR vG)
     obtain ⟨s2,e4,b2,l2,k2,n2⟩:=cO (cs:= [.int .i64 0,.int .i64 0,.int .i64 0,.ah,.ah]) (l:= [.int .i64 (A.1.getD 0 0),.int .i64 (A.1.getD 1 0),.int .i64 (A.1.getD 2 0),w2,.ah]) (t:=37) (z:=5) l1 rfl rfl (by show (true && (true && (true && (aR w2 && (true && true)))))=true;rw [Fs.aR vG];rfl)
     have eX:=b1.kp k2 (by simp)
     have Hz:=b2.hi
     simp (disch:=omega) only [jU,st,si,e1,e2,h1,ne_eq,not_true,hw.len,h2,BC,e3,h3,hw.ix,dW,Int.toNat_natCast,show Int.toNat 2=2 from rfl,br,Lr]
     rw [e4]
     rw [Bu,Bv,Int.toNat_natCast,Int.toNat_natCast]
     simp (disch:=omega) only [jU,st]
     rw [Bu,Int.toNat_natCast] at hmk
     have HC:=fun (bs:List Bx) (pos:Nat) h4=>hmk bs pos h1 h2 h3 h4
     rw [Bv,Int.toNat_natCast] at HC
     generalize hR:uv C.1.length [] (Rf+Ng) b=R at*
     have hKb:C.1.length≤40000:=by omega
     refine aP (bW s _) (fun k vs t=> ∃(i:Nat) (x:V) (bs:List Bx) (cq:List V) (pos:Nat),vs= [.int .i64 i,w2,v,.ptr s1.n 0,.int .i64 pos,.ptr s.n 0]∧Loc s t∧dX s t s.n [.int .i64 0,.int .i64 0,.int .i64 0,.ah,.ah] 37 false∧
      dX s t s1.n [.int .i64 (A.1.getD 0 0),.int .i64 (A.1.getD 1 0),.int .i64 (A.1.getD 2 0),w2,x] 37 false∧Ow s t 49 16 x bs.length cq∧(∀c,c∈aA x→s2.n≤c)∧iQ bs cq∧uv (C.1.length - i) bs pos b=R∧bs.length=i∧pos≤b.length∧i+k=C.1.length∧s2.n≤t.n) ?_ _ C.1.length _ _
      ⟨0,.ah, [], [],Rf+Ng,rfl,l2,eX,b2,.nil,(fun c h=>by cases h),.nil,hR,rfl,by omega,by omega,Nat.le_refl _⟩ (by omega)
     rintro ih k _ t ⟨i,x,bs,cq,pos,rfl,hlt,q1,q2,ho,lA,Eb,Hx,z9,hpos,DX,Yh⟩ eZ
     have nT:=q1.hi
     have HE:=q2.hi
     by_cases hi:i<C.1.length
     ·simp (disch:=omega) only [jU,st,si,vG.len]
      have Bp:uv (C.1.length - i) bs pos b=match tq 4 [] pos b with
       |none=>none
       |some (l,pos')=>uv (C.1.length - i - 1) (bs++ [HT l]) pos' b:=by
       rw [show C.1.length - i=(C.1.length - i - 1)+1 by omega];rfl
      rw [Hx] at Bp
      generalize hG:tq 4 [] pos b=G at*
      refine aP (bW s _) (fun k vs t'=> ∃(j:Nat) (xs:List (Int×Nat)) (sl:V) (cj:List V) (po:Nat),vs= [.int .i64 j,sl,.int .i64 i,w2,v,.ptr s1.n 0,.int .i64 po,.ptr s.n 0]∧Loc s t'∧dX s t' s.n [.int .i64 0,.int .i64 0,.int .i64 0,.ah,.ah] 37 false∧
       dX s t' s1.n [.int .i64 (A.1.getD 0 0),.int .i64 (A.1.getD 1 0),.int .i64 (A.1.getD 2 0),w2,x] 37 false∧Ow s t' 49 16 x bs.length cq∧Ow s t' 45 4 sl xs.length cj∧(∀c,c∈aA sl→t.n≤c)∧FI xs cj∧tq (4 - j) xs po b=G∧xs.length=j∧po≤b.length∧t.n≤t'.n∧j+k=4) ?_ _ 4 _ _
       ⟨0, [],.ah, [],pos,rfl,hlt,q1,q2,ho,.nil,(fun c h=>by cases h),.nil,hG,rfl,hpos,Nat.le_refl _,rfl⟩ (by omega)
      rintro Nd k' _ t' ⟨j,xs,sl,cj,po,rfl,ot,p1,p2,mC,uI,HH,Na,Hy,Lt,X6,Um,hjk⟩ nG
      by_cases hj:j<4
      ·obtain ⟨wp,Yr,IJ⟩:=hv.BQ (q:= .i64) (lo:=(po:Int)) (by omega) (by omega)
       rw [Int.toNat_natCast] at IJ
       have MY:=bP po hb
       have yD:(b.drop po).length=b.length - po:=List.length_drop
       obtain ⟨r5,⟨av,rfl,Xf⟩,f1⟩:=aU (dr:=false) (st:=true) (c65 IJ MY (by omega)) (cU IJ.az) ot.wm
       have vD:tq (4 - j) xs po b=if (dR (b.drop po)).2.2≠0 then none else tq (3 - j) (xs++ [RG (dR (b.drop po)).1]) (po+(dR (b.drop po)).2.1.toNat) b:=by
        rw [show 4 - j=(3 - j)+1 by omega];rfl
       rw [Hy] at vD
       have hok:=fun h=>Da (b:=b.drop po) MY h
       generalize dR (b.drop po)=D at*
       obtain ⟨d,e,rfl,hd,he⟩:=Xf
       obtain ⟨t1,f2,c1,m1,j1,g1⟩:=cO (cs:= [.bool false,.ah,.bool false,.ah]) (l:= [.bool D.1.np,d,.bool D.1.nq,e]) (t:=45) (z:=4) ot rfl rfl (RR.atoms hd he).1
       have Rz:=p1.kp j1 (by simp)
       have Zp:=p2.kp j1 (by simp)
       simp (disch:=omega) only [jU,st,si,Yr,f1]
       rw [f2]
       by_cases h4:D.2.2=0
       ·obtain ⟨X',hV,hx,_,yE,hnl,_,_⟩:=hok h4
        rw [yD] at hnl
        rw [if_neg (by omega),hx,uZ hV] at vD
        have Xx:CR X'.1 X'.2 (.agg [.bool D.1.np,d,.bool D.1.nq,e]):=by
         have By:RR D.1.np D.1.lp D.1.nq D.1.lq (.agg [.bool D.1.np,d,.bool D.1.nq,e]):=⟨d,e,rfl,hd,he⟩
         rw [hx] at By ⊢
         exact By
        obtain ⟨m,hm⟩:=Int.eq_ofNat_of_zero_le yE
        rw [hm] at hnl vD ⊢
        rw [Int.toNat_natCast] at vD
        have hfl:aI (bz 1 [.bool false,.ah,.bool false,.ah]) [(0,4,.agg [.bool D.1.np,d,.bool D.1.nq,e])]=some (.agg [.bool D.1.np,d,.bool D.1.nq,e]):=rfl
        have K5:=mC.kp j1 (fun _ _=>by simp)
        have Li:=uI.kp j1 (fun _ _=>by simp)
        obtain ⟨sl',t2,f3,o3,m3,j3,g3⟩:=ug (te:=Fx) (e:=45) m1 Li hfl rfl (RR.atoms hd he).1 rfl (by decide) (by rw [show Fx.bytes=64 from rfl,Lt];omega)
        simp (disch:=omega) only [jU,st,si,h4,ne_eq,not_true,c1.r4,br]
        rw [f3]
        have hj1:=j1.1
        exact nG (k' - 1) _ _ (by omega) ⟨j+1,xs++ [X'],sl',cj++ [.bool D.1.np,d,.bool D.1.nq,e],po+m,rfl,m3,Rz.kp j3 (fun h=>by have:=HH _ h;omega),Zp.kp j3 (fun h=>by have:=HH _ h;omega),
         K5.kp j3 (fun c hc h=>by have:=HH _ h;have:=(ho.lo hc).2;omega),by rw [List.length_append];exact o3,fun c hc=>(g3 c hc).elim (HH c) (fun h=>by omega),Na.snoc Xx,by rw [show 4 - (j+1)=3 - j by omega];exact vD.symm,by simp [Lt],by omega,by have:=j3.1;omega,by omega⟩
       ·rw [if_pos h4] at vD
        rw [vD] at Bp
        subst Bp
        obtain ⟨t2,g2,g3⟩:=mU hs m1 Rz
        simp (disch:=first|exact h4|omega) only [jU,st,si,eB,g2]
        exact ⟨_,rfl,g3⟩
      ·rw [show 4 - j=0 by omega] at Hy
       simp only [tq] at Hy
       rw [←Hy] at Bp
       simp only [] at Bp
       obtain ⟨x1,x2,x3,x4,rfl⟩:=four (l:=xs) (by omega)
       obtain ⟨sb,bL,rfl,QL⟩:=uI.Q1 (by simp)
       cases Na with
       |cons _ a1 a2 a3 a4 _ Ir y1 wP=>
       cases wP with
       |cons _ a5 a6 a7 a8 _ JW y2 Ul=>
       cases Ul with
       |cons _ a9 vo vp vq _ cs3 y3 Ch=>
       cases Ch with
       |cons _ vr vu vw vx _ cs4 y4 Yf=>
       cases Yf
       have i0:ck 4 (.sl sb 0 [x1,x2,x3,x4].length [x1,x2,x3,x4].length 4) (.int .i64 0)=some (.ptr sb 0):=rfl
       have i1:ck 4 (.sl sb 0 [x1,x2,x3,x4].length [x1,x2,x3,x4].length 4) (.int .i64 1)=some (.ptr sb 4):=rfl
       have i2:ck 4 (.sl sb 0 [x1,x2,x3,x4].length [x1,x2,x3,x4].length 4) (.int .i64 2)=some (.ptr sb 8):=rfl
       have i3:ck 4 (.sl sb 0 [x1,x2,x3,x4].length [x1,x2,x3,x4].length 4) (.int .i64 3)=some (.ptr sb 12):=rfl
       have qh:RB (HT [x1,x2,x3,x4]) [a1,a2,a3,a4,a5,a6,a7,a8,a9,vo,vp,vq,vr,vu,vw,vx]:=⟨_,_,_,_,_,_,_,_,_,_,_,_,_,_,_,_,rfl,y1,y2,y3,y4⟩
       have g1:aI [.bool false,.ah,.bool false,.ah,.bool false,.ah,.bool false,.ah] [(0,4,.agg [a1,a2,a3,a4]),(4,4,.agg [a5,a6,a7,a8])]=some (.agg [a1,a2,a3,a4,a5,a6,a7,a8]):=rfl
       have g2:aI [.bool false,.ah,.bool false,.ah,.bool false,.ah,.bool false,.ah] [(0,4,.agg [a9,vo,vp,vq]),(4,4,.agg [vr,vu,vw,vx])]=some (.agg [a9,vo,vp,vq,vr,vu,vw,vx]):=rfl
       have g3:aI [.bool false,.ah,.bool false,.ah,.bool false,.ah,.bool false,.ah,.bool false,.ah,.bool false,.ah,.bool false,.ah,.bool false,.ah] [(0,8,.agg [a1,a2,a3,a4,a5,a6,a7,a8]),(8,8,.agg [a9,vo,vp,vq,vr,vu,vw,vx])]=
        some (.agg [a1,a2,a3,a4,a5,a6,a7,a8,a9,vo,vp,vq,vr,vu,vw,vx]):=rfl
       have g4:aI (bz 1 [.bool false,.ah,.bool false,.ah,.bool false,.ah,.bool false,.ah,.bool false,.ah,.bool false,.ah,.bool false,.ah,.bool false,.ah]) [(0,16,.agg [a1,a2,a3,a4,a5,a6,a7,a8,a9,vo,vp,vq,vr,vu,vw,vx])]=
        some (.agg [a1,a2,a3,a4,a5,a6,a7,a8,a9,vo,vp,vq,vr,vu,vw,vx]):=rfl
       obtain ⟨x',t1,f1,o1,m1,j1,v1⟩:=ug (te:=mP) (e:=49) ot mC g4 rfl (ew qh.atoms.1) rfl (by decide) (by rw [show mP.bytes=256 from rfl,z9];omega)
       have D8: ∀c,c<s2.n→c∉aA x:=fun c hc h=>by have:=lA c h;omega
       have Zq:=p2.kp j1 (D8 _ (by omega))
       obtain ⟨t2,f2,c2,m2,j2,_⟩:=Zq.qo (j:=4) (x:=x') m1 (by simp) o1.aR
       have Ao: ∀c,c∈aA x'→s2.n≤c:=fun c hc=>(v1 c hc).elim (lA c) (fun h=>by omega)
       simp (disch:=omega) only [jU,st,si,cS,p2.r5,i0,i1,i2,i3,QL.r16,g1,g2,g3]
       rw [f1]
       simp (disch:=omega) only [jU,st,si,cS,f2,br]
       exact eZ (k - 1) _ _ (by omega) ⟨i+1,x',bs++ [HT [x1,x2,x3,x4]],cq++ [a1,a2,a3,a4,a5,a6,a7,a8,a9,vo,vp,vq,vr,vu,vw,vx],po,rfl,m2,(p1.kp j1 (D8 _ (by omega))).kp j2 (by simp;omega),c2,
        by rw [List.length_append];exact o1.kp j2 (fun c hc h=>by have:=Ao c hc;simp at h;omega),Ao,Eb.app (iQ.one qh),by rw [Bp,Nat.sub_add_eq],by simp [z9],X6,by omega,by have:=j1.1;have:=j2.1;omega⟩
     ·rw [show C.1.length - i=0 by omega] at Hx
      simp only [uv] at Hx
      subst Hx
      simp only []
      obtain ⟨a',bb,hz,Ya,uA,qj⟩:=sI.agg (p:=sP A.1 C.1 bs) (ho.TQ Eb).aw vG
      obtain ⟨t1,f1,m1,j1,g1,r1⟩:=vT (dr:=false) (st:=false) hlt (bK.cons _ _ _ _ _ _ _ _ hz (.nil _)) (fun c hc=>by rw [List.append_nil] at hc;exact uA c hc) (fun h=>by cases h) (c18 Ya (by show C.1.length≤_;omega) (by show bs.length≤_;omega))
      rw [List.append_nil] at j1
      have WA:au cx false false (.fn 18 [] []) [.agg [.int .i64 (A.1.getD 0 0),.int .i64 (A.1.getD 1 0),.int .i64 (A.1.getD 2 0),w2,x]] t=some (.bool (sP A.1 C.1 bs).formed,t1):=f1
      have D8: ∀c,c<s2.n→c∉bb:=fun c hc h=>by have:=lA c (qj c h);omega
      have p1:=q1.kp j1 (D8 _ (by omega))
      have p2:=q2.kp j1 (D8 _ (by omega))
      have hF:sI s t1 x (sP A.1 C.1 bs).boxes:=(ho.TQ Eb).mono (by omega) (fun c cs hr _ _=>r1 c cs hr)
      simp (disch:=omega) only [jU,st,si,vG.len,q2.r5,WA,ea]
      cases hfo:(sP A.1 C.1 bs).formed with
      |true=>
       simp (disch:=omega) only [jU,st,Bool.not_true,p2.r5, ↓reduceIte]
       exact Fa (p:=sP A.1 C.1 bs) (n:=pos) p1 m1 hs rfl vG hF (fun h=>by have:=lA _ h;omega)
      |false=>
       obtain ⟨t2,g2,g3⟩:=mU hs m1 p1
       simp (disch:=omega) only [jU,st,Bool.not_false,eB,g2,Bool.false_eq_true, ↓reduceIte]
       exact ⟨_,rfl,g3⟩
    ·rw [if_pos h3]
     obtain ⟨t',f1,f2⟩:=mU hs l1 b1
     simp (disch:=first|exact h3|omega) only [jU,st,si,e1,e2,h1,ne_eq,not_true,hw.len,h2,BC,e3,eB,f1]
     exact ⟨_,rfl,f2⟩
   ·rw [if_neg (by omega),if_pos h2]
    obtain ⟨t',f1,f2⟩:=mU hs l1 b1
    simp (disch:=omega) only [jU,st,si,e1,e2,h1,ne_eq,not_true,hw.len,eB,f1]
    exact ⟨_,rfl,f2⟩
  ·rw [if_pos h1]
   obtain ⟨t',f1,f2⟩:=mU hs l1 b1
   simp (disch:=first|exact h1|omega) only [jU,st,si,e1,e2,eB,f1]
   exact ⟨_,rfl,f2⟩) (by omega)
def zB:List V:= [.bool false,.ah,.bool false,.ah,.bool false,.ah,.bool false,.ah,.bool false,.ah,.bool false,.ah,.bool false,.ah,.bool false,.ah]
theorem FI.len {xs:List (Int×Nat)} {cs:List V} (h:FI xs cs):cs.length=xs.length*4:=by
 induction h with
 |nil=>rfl
 |cons x a b c d xs cs _ _ ih=>simp only [List.length_cons,ih];omega
theorem Fk {cj:List V} {j:Nat} {a b c d:V} (h:cj.length=j*4) (hj:j<4):bY (cj++zB.drop (j*4)) (j*4) [a,b,c,d]=(cj++ [a,b,c,d])++zB.drop ((j+1)*4):=by
 unfold bY
 rw [List.take_left' h,show j*4+ [a,b,c,d].length=cj.length+4 by rw [h];rfl,List.drop_length_add_append,List.drop_drop,List.append_assoc,show j*4+4=(j+1)*4 by omega]
theorem dX.putAt {s₀ s:S} {b t j z:Nat} {bL:Bool} {cs l:List V} (h:dX s₀ s b cs t bL) (hl:Loc s₀ s) (hz:l.length=z) (hj:j+z≤cs.length) (hx:l.all aR=true):
  ∃s',aq s (aB z (.ptr b j) (.agg l) (aw s))=some (.bad,s')∧dX s₀ s' b (bY cs j l) t bL∧Loc s₀ s'∧Kp s s' [b]∧s'.n=s.n:=by
 obtain ⟨s',e1,b1,l1,k1,n1⟩:=h.write hl (j:=j) (l:=l) (by omega) hx
 have hb:Nat.beq l.length z=true:=by rw [Nat.beq_eq];exact hz
 refine ⟨s',?_,b1,l1,k1,n1⟩
 rw [←e1 .bad]
 simp only [aB,bc,hb]
 rfl
theorem rf (p:Pm):0<(dz p).length:=by
 unfold dz eC
 simp only [List.length_append,lQ]
 omega
theorem Wh {v:V} {b:List Int} (hv:Is .u8 v b) (hb:bytes b) (hlen:b.length≤40000):eL cx 25 [v] (Nq (dP b)):=fun s hs=>
 (E25 (aE (by decide))).fD (b.length+10) (by
  show bW s _ (VA cx _ v s)
  unfold VA
  generalize hF:b.length+10=F
  obtain ⟨s1,e1,b1,l1,k1,n1⟩:=ca [.int .i64 0,.int .i64 0,.int .i64 0,.ah,.ah] 55 (Loc.refl hs)
  obtain ⟨r1,⟨w,rfl,hw⟩,e2⟩:=aU (dr:=false) (st:=false) (Wo hv hb (by omega)) (cU hv.az) l1.wm
  have hL:=kC hb
  have yB:=b1.hi
  have hmk:=fun (bs:List Bx) (pos:Nat) h1 h2 h3 h4=>yL (bs:=bs) (pos:=pos) hb hlen h1 h2 h3 h4
  unfold dP
  generalize hA:gL b=A at*
  by_cases h1:A.2.2=0
  ·by_cases h2:A.1.length=3
   ·rw [if_neg (by omega),if_neg (by omega)]
    obtain ⟨w1,BC,lX⟩:=hv.BQ (q:= .i64) (lo:=A.2.1) (by omega) (by omega)
    have pq:=bP A.2.1.toNat hb
    have nD:(b.drop A.2.1.toNat).length=b.length - A.2.1.toNat:=List.length_drop
    obtain ⟨r2,⟨w2,rfl,vG⟩,e3⟩:=aU (dr:=false) (st:=false) (Wo lX pq (by omega)) (cU lX.az) l1.wm
    have PC:=kC pq
    generalize hC:gL (b.drop A.2.1.toNat)=C at*
    rw [nD] at PC
    by_cases h3:C.2.2=0
    ·rw [if_neg (by omega)]
     obtain ⟨Rf,Bu⟩:=Int.eq_ofNat_of_zero_le hL.2.1
     obtain ⟨Ng,Bv⟩:=Int.eq_ofNat_of_zero_le PC.2.1
     have Lr:aI [.int .i64 0,.int .i64 0,.int .i64 0,.ah,.ah] [(0,1,.int .i64 (A.1.getD 0 0)),(1,1,.int .i64 (A.1.getD 1 0)),(2,1,.int .i64 (A.1.getD 2 0)),(3,1,w2)]=some (.agg [.int .i64 (A.1.getD 0 0),.int .i64 (A.1.getD 1 0),.int .i64 (A.1.getD 2 0),w2,.ah]):=zG rfl rfl rfl (Fs.aR vG)
     obtain ⟨s2,e4,b2,l2,k2,n2⟩:=cO (cs:= [.int .i64 0,.int .i64 0,.int .i64 0,.ah,.ah]) (l:= [.int .i64 (A.1.getD 0 0),.int .i64 (A.1.getD 1 0),.int .i64 (A.1.getD 2 0),w2,.ah]) (t:=55) (z:=5) l1 rfl rfl (by show (true && (true && (true && (aR w2 && (true && true)))))=true;rw [Fs.aR vG];rfl)
     have eX:=b1.kp k2 (by simp)
     have Hz:=b2.hi
     obtain ⟨w3,hw3,hd3⟩:=lX.BQ (q:= .i64) (lo:=C.2.1) (by omega) (by omega)
     rw [List.drop_drop,Bu,Bv,Int.toNat_natCast,Int.toNat_natCast] at hd3
     simp (disch:=omega) only [jU,st,si,e1,e2,h1,ne_eq,not_true,hw.len,h2,BC,e3,h3,hw3,hw.ix,dW,Int.toNat_natCast,show Int.toNat 2=2 from rfl,br,Lr]
     rw [e4]
     rw [Bu,Bv,Int.toNat_natCast,Int.toNat_natCast]
     simp (disch:=omega) only [jU,st,vG.len]
     rw [Bu,Int.toNat_natCast] at hmk
     have HC:=fun (bs:List Bx) (pos:Nat) h4=>hmk bs pos h1 h2 h3 h4
     rw [Bv,Int.toNat_natCast] at HC
     generalize hR:uv C.1.length [] (Rf+Ng) b=R at*
     have hKb:C.1.length≤40000:=by omega
     refine aP (bW s _) (fun k vs t=> ∃(i:Nat) (x:V) (bs:List Bx) (cq:List V) (pos:Nat) (rs:V),vs= [.int .i64 i,.int .i64 C.1.length,.ptr s1.n 0,v,rs,.ptr s.n 0]∧Is .u8 rs (b.drop pos)∧Loc s t∧dX s t s.n [.int .i64 0,.int .i64 0,.int .i64 0,.ah,.ah] 55 false∧
      dX s t s1.n [.int .i64 (A.1.getD 0 0),.int .i64 (A.1.getD 1 0),.int .i64 (A.1.getD 2 0),w2,x] 55 false∧Ow s t 108 16 x bs.length cq∧(∀c,c∈aA x→s2.n≤c)∧iQ bs cq∧uv (C.1.length - i) bs pos b=R∧bs.length=i∧pos≤b.length∧i+k=C.1.length∧s2.n≤t.n) ?_ _ C.1.length _ _
      ⟨0,.ah, [], [],Rf+Ng,w3,rfl,hd3,l2,eX,b2,.nil,(fun c h=>by cases h),.nil,hR,rfl,by omega,by omega,Nat.le_refl _⟩ (by omega)
     rintro ih k _ t ⟨i,x,bs,cq,pos,rs,rfl,nU,hlt,q1,q2,ho,lA,Eb,Hx,z9,hpos,DX,Yh⟩ eZ
     have nT:=q1.hi
     have HE:=q2.hi
     by_cases hi:i<C.1.length
     ·obtain ⟨s3,e5,B3,l3,k3,n3⟩:=ca zB 124 hlt
      have e5':aq t (aT [.bool false,.ah,.bool false,.ah,.bool false,.ah,.bool false,.ah,.bool false,.ah,.bool false,.ah,.bool false,.ah,.bool false,.ah] 124 (aw t))=some (.ptr t.n 0,s3):=e5
      simp (disch:=omega) only [jU,st,si,e5']
      have Bp:uv (C.1.length - i) bs pos b=match tq 4 [] pos b with
       |none=>none
       |some (l,pos')=>uv (C.1.length - i - 1) (bs++ [HT l]) pos' b:=by
       rw [show C.1.length - i=(C.1.length - i - 1)+1 by omega];rfl
      rw [Hx] at Bp
      generalize hG:tq 4 [] pos b=G at*
      refine aP (bW s _) (fun k vs t'=> ∃(j:Nat) (xs:List (Int×Nat)) (cj:List V) (po:Nat) (rs:V),vs= [.int .i64 j,.ptr t.n 0,.int .i64 i,.int .i64 C.1.length,.ptr s1.n 0,v,rs,.ptr s.n 0]∧Is .u8 rs (b.drop po)∧Loc s t'∧dX s t' s.n [.int .i64 0,.int .i64 0,.int .i64 0,.ah,.ah] 55 false∧
       dX s t' s1.n [.int .i64 (A.1.getD 0 0),.int .i64 (A.1.getD 1 0),.int .i64 (A.1.getD 2 0),w2,x] 55 false∧Ow s t' 108 16 x bs.length cq∧dX s t' t.n (cj++zB.drop (j*4)) 124 false∧FI xs cj∧tq (4 - j) xs po b=G∧xs.length=j∧po≤b.length∧t.n≤t'.n∧j+k=4) ?_ _ 4 _ _
       ⟨0, [], [],pos,rs,rfl,nU,l3,q1.kp k3 (by simp),q2.kp k3 (by simp),ho.kp k3 (fun _ _=>by simp),B3,.nil,hG,rfl,hpos,k3.1,rfl⟩ (by omega)
      rintro Nd k' _ t' ⟨j,xs,cj,po,rs',rfl,IJ,ot,p1,p2,mC,hB,Na,Hy,Lt,X6,Um,hjk⟩ nG
      by_cases hj:j<4
      ·have MY:=bP po hb
       have yD:(b.drop po).length=b.length - po:=List.length_drop
       obtain ⟨r5,⟨av,rfl,Xf⟩,f1⟩:=aU (dr:=false) (st:=true) (c62 IJ MY (by omega)) (cU IJ.az) ot.wm
       have vD:tq (4 - j) xs po b=if (dR (b.drop po)).2.2≠0 then none else tq (3 - j) (xs++ [RG (dR (b.drop po)).1]) (po+(dR (b.drop po)).2.1.toNat) b:=by
        rw [show 4 - j=(3 - j)+1 by omega];rfl
       rw [Hy] at vD
       have hok:=fun h=>Da (b:=b.drop po) MY h
       generalize dR (b.drop po)=D at*
       obtain ⟨d,e,rfl,hd,he⟩:=Xf
       obtain ⟨t1,f2,c1,m1,j1,g1⟩:=cO (cs:= [.bool false,.ah,.bool false,.ah]) (l:= [.bool D.1.np,d,.bool D.1.nq,e]) (t:=45) (z:=4) ot rfl rfl (RR.atoms hd he).1
       have Rz:=p1.kp j1 (by simp)
       have Zp:=p2.kp j1 (by simp)
       simp (disch:=omega) only [jU,st,si,f1]
       rw [f2]
       by_cases h4:D.2.2=0
       ·obtain ⟨X',hV,hx,_,yE,hnl,_,_⟩:=hok h4
        rw [yD] at hnl
        rw [if_neg (by omega),hx,uZ hV] at vD
        have Xx:CR X'.1 X'.2 (.agg [.bool D.1.np,d,.bool D.1.nq,e]):=by
         have By:RR D.1.np D.1.lp D.1.nq D.1.lq (.agg [.bool D.1.np,d,.bool D.1.nq,e]):=⟨d,e,rfl,hd,he⟩
         rw [hx] at By ⊢
         exact By
        obtain ⟨m,hm⟩:=Int.eq_ofNat_of_zero_le yE
        rw [hm] at hnl vD ⊢
        rw [Int.toNat_natCast] at vD
        have B1:=hB.kp j1 (by simp)
        have hcl:=Na.len
        rw [Lt] at hcl
        have hBl:(cj++zB.drop (j*4)).length=16:=by
         have:(zB.drop (j*4)).length=16 - j*4:=List.length_drop
         rw [List.length_append,hcl];omega
        obtain ⟨t2,f3,B2,m3,j3,_⟩:=B1.putAt (j:=j*4) (z:=4) (l:= [.bool D.1.np,d,.bool D.1.nq,e]) m1 rfl (by rw [hBl];omega) (RR.atoms hd he).1
        rw [Fk hcl hj] at B2
        have XP:qn 4 4 (.ptr t.n 0) (.int .i64 (j:Int))=some (.ptr t.n (j*4)):=by
         have:Em (j:Int) 4=true:=by show Nat.blt j 4=true;rw [Nat.blt_eq];omega
         simp only [qn,this,Int.toNat_natCast,Nat.zero_add]
        obtain ⟨wp,Yr,P9⟩:=IJ.BQ (q:= .i64) (lo:=(m:Int)) (by omega) (by rw [yD];omega)
        rw [Int.toNat_natCast,List.drop_drop] at P9
        simp (disch:=omega) only [jU,st,si,h4,ne_eq,not_true,c1.r4,Yr,XP,f3,br]
        have hj1:=j1.1
        exact nG (k' - 1) _ _ (by omega) ⟨j+1,xs++ [X'],cj++ [.bool D.1.np,d,.bool D.1.nq,e],po+m,wp,rfl,P9,m3,Rz.kp j3 (by simp;omega),Zp.kp j3 (by simp;omega),
         (mC.kp j1 (fun _ _=>by simp)).kp j3 (fun c hc h=>by have:=(ho.lo hc).2;simp at h;omega),B2,Na.snoc Xx,by rw [show 4 - (j+1)=3 - j by omega];exact vD.symm,by simp [Lt],by omega,by have:=j3.1;omega,by omega⟩
       ·rw [if_pos h4] at vD
        rw [vD] at Bp
        subst Bp
        obtain ⟨t2,g2,g3⟩:=mU hs m1 Rz
        simp (disch:=first|exact h4|omega) only [jU,st,si,eB,g2]
        exact ⟨_,rfl,g3⟩
      ·rw [show 4 - j=0 by omega] at Hy
       simp only [tq] at Hy
       rw [←Hy] at Bp
       simp only [] at Bp
       obtain ⟨x1,x2,x3,x4,rfl⟩:=four (l:=xs) (by omega)
       cases Na with
       |cons _ a1 a2 a3 a4 _ Ir y1 wP=>
       cases wP with
       |cons _ a5 a6 a7 a8 _ JW y2 Ul=>
       cases Ul with
       |cons _ a9 vo vp vq _ cs3 y3 Ch=>
       cases Ch with
       |cons _ vr vu vw vx _ cs4 y4 Yf=>
       cases Yf
       have hj4:j=4:=by simpa using Lt.symm
       subst hj4
       have QL:dX s t' t.n [a1,a2,a3,a4,a5,a6,a7,a8,a9,vo,vp,vq,vr,vu,vw,vx] 124 false:=hB
       have i0:qn 4 4 (.ptr t.n 0) (.int .i64 0)=some (.ptr t.n 0):=rfl
       have i1:qn 4 4 (.ptr t.n 0) (.int .i64 1)=some (.ptr t.n 4):=rfl
       have i2:qn 4 4 (.ptr t.n 0) (.int .i64 2)=some (.ptr t.n 8):=rfl
       have i3:qn 4 4 (.ptr t.n 0) (.int .i64 3)=some (.ptr t.n 12):=rfl
       have qh:RB (HT [x1,x2,x3,x4]) [a1,a2,a3,a4,a5,a6,a7,a8,a9,vo,vp,vq,vr,vu,vw,vx]:=⟨_,_,_,_,_,_,_,_,_,_,_,_,_,_,_,_,rfl,y1,y2,y3,y4⟩
       have g1:aI [.bool false,.ah,.bool false,.ah,.bool false,.ah,.bool false,.ah] [(0,4,.agg [a1,a2,a3,a4]),(4,4,.agg [a5,a6,a7,a8])]=some (.agg [a1,a2,a3,a4,a5,a6,a7,a8]):=rfl
       have g2:aI [.bool false,.ah,.bool false,.ah,.bool false,.ah,.bool false,.ah] [(0,4,.agg [a9,vo,vp,vq]),(4,4,.agg [vr,vu,vw,vx])]=some (.agg [a9,vo,vp,vq,vr,vu,vw,vx]):=rfl
       have g3:aI [.bool false,.ah,.bool false,.ah,.bool false,.ah,.bool false,.ah,.bool false,.ah,.bool false,.ah,.bool false,.ah,.bool false,.ah] [(0,8,.agg [a1,a2,a3,a4,a5,a6,a7,a8]),(8,8,.agg [a9,vo,vp,vq,vr,vu,vw,vx])]=
        some (.agg [a1,a2,a3,a4,a5,a6,a7,a8,a9,vo,vp,vq,vr,vu,vw,vx]):=rfl
       have g4:aI (bz 1 [.bool false,.ah,.bool false,.ah,.bool false,.ah,.bool false,.ah,.bool false,.ah,.bool false,.ah,.bool false,.ah,.bool false,.ah]) [(0,16,.agg [a1,a2,a3,a4,a5,a6,a7,a8,a9,vo,vp,vq,vr,vu,vw,vx])]=
        some (.agg [a1,a2,a3,a4,a5,a6,a7,a8,a9,vo,vp,vq,vr,vu,vw,vx]):=rfl
       obtain ⟨x',t1,f1,o1,m1,j1,v1⟩:=ug (te:=sw) (e:=108) ot mC g4 rfl (ew qh.atoms.1) rfl (by decide) (by rw [show sw.bytes=256 from rfl,z9];omega)
       have D8: ∀c,c<s2.n→c∉aA x:=fun c hc h=>by have:=lA c h;omega
       have Zq:=p2.kp j1 (D8 _ (by omega))
       obtain ⟨t2,f2,c2,m2,j2,_⟩:=Zq.qo (j:=4) (x:=x') m1 (by simp) o1.aR
       have Ao: ∀c,c∈aA x'→s2.n≤c:=fun c hc=>(v1 c hc).elim (lA c) (fun h=>by omega)
       simp (disch:=omega) only [jU,st,si,cS,p2.r5,i0,i1,i2,i3,QL.r16,g1,g2,g3]
       rw [f1]
       simp (disch:=omega) only [jU,st,si,cS,f2,br]
       exact eZ (k - 1) _ _ (by omega) ⟨i+1,x',bs++ [HT [x1,x2,x3,x4]],cq++ [a1,a2,a3,a4,a5,a6,a7,a8,a9,vo,vp,vq,vr,vu,vw,vx],po,rs',rfl,IJ,m2,(p1.kp j1 (D8 _ (by omega))).kp j2 (by simp;omega),c2,
        by rw [List.length_append];exact o1.kp j2 (fun c hc h=>by have:=Ao c hc;simp at h;omega),Ao,Eb.app (iQ.one qh),by rw [Bp,Nat.sub_add_eq],by simp [z9],X6,by omega,by have:=j1.1;have:=j2.1;omega⟩
     ·rw [show C.1.length - i=0 by omega] at Hx
      simp only [uv] at Hx
      subst Hx
      simp only []
      obtain ⟨a',bb,hz,Ya,uA,qj⟩:=sI.agg (p:=sP A.1 C.1 bs) (ho.TQ Eb).aw vG
      obtain ⟨Ay,HY,_⟩:=HC bs pos rfl
      have Bw:=rf (sP A.1 C.1 bs)
      have hel:(dz (sP A.1 C.1 bs)).length=pos:=by rw [HY,List.length_take];omega
      obtain ⟨y,t1,f1,o1,m1,j1,g1,r1⟩:=tf (dr:=false) (st:=false) hlt (bK.cons _ _ _ _ _ _ _ _ hz (.nil _)) (fun c hc=>by rw [List.append_nil] at hc;exact uA c hc) (fun h=>by cases h) (Wf Ya Ay (by omega)) (cY _)
      rw [List.append_nil] at j1
      have WA:au cx false false (.fn 22 [] []) [.agg [.int .i64 (A.1.getD 0 0),.int .i64 (A.1.getD 1 0),.int .i64 (A.1.getD 2 0),w2,x]] t=some (y,t1):=f1
      have D8: ∀c,c<s2.n→c∉bb:=fun c hc h=>by have:=lA c (qj c h);omega
      have p1:=q1.kp j1 (D8 _ (by omega))
      have p2:=q2.kp j1 (D8 _ (by omega))
      have hF:sI s t1 x (sP A.1 C.1 bs).boxes:=(ho.TQ Eb).mono j1.1 (fun c cs hr hc _=>r1 c cs hr hc)
      simp (disch:=omega) only [jU,st,si,q2.r5,WA,o1.len]
      cases hfo:(sP A.1 C.1 bs).formed with
      |true=>
       rw [hfo] at o1
       simp only [↓reduceIte] at o1
       obtain ⟨y',u1,DG,Uu⟩:=B9 [v] [] o1 (aS _ _) (by rw [List.all_cons,Fs.cm hv];rfl) rfl
       have La:decide ((dz (sP A.1 C.1 bs)).length≤b.length∧b.take (dz (sP A.1 C.1 bs)).length=dz (sP A.1 C.1 bs))=true:=decide_eq_true ⟨by omega,by rw [hel,HY]⟩
       have PZ:=c63 (x:=v) (y:=y') hv Uu hb (by rw [HY];exact cP _ hb) (by omega) (by omega)
       rw [La] at PZ
       obtain ⟨t2,f2,m2,j2,g2,r2⟩:=vT (dr:=false) (st:=true) m1 DG (fun c hc=>(o1.lo hc).1) (fun h h'=>by cases h') PZ
       have f2':au cx false true (.fn 63 [] []) [v,y] t1=some (.bool true,t2):=f2
       have hyn: ∀c,c<t.n→c∉aA y:=fun c hc h=>by have:=g1 _ h;omega
       have Yy:decide (((dz (sP A.1 C.1 bs)).length:Int)=0)=false:=decide_eq_false (by omega)
       have hlr:(b.drop pos).length=b.length - pos:=List.length_drop
       have Eg:(b.length:Int) - ((b.drop pos).length:Int)=(pos:Int):=by rw [hlr];omega
       simp (disch:=omega) only [jU,st,si,Yy,gS,f2',ea,Bool.not_true,p2.r5,(p2.kp j2 (hyn _ (by omega))).r5,hv.len,nU.len,Eg,br, ↓reduceIte]
       exact Fa (p:=sP A.1 C.1 bs) (n:=pos) (p1.kp j2 (hyn _ (by omega))) m2 hs rfl vG (hF.mono (by omega) (fun c cs hr _ _=>r2 c cs hr)) (fun h=>by have:=lA _ h;omega)
      |false=>
       obtain ⟨t2,g2,g3⟩:=mU hs m1 p1
       simp (disch:=omega) only [jU,st,gS,Bool.false_eq_true, ↓reduceIte,List.length_nil,show decide (((0:Nat):Int)=0)=true from rfl,eB,g2]
       exact ⟨_,rfl,g3⟩
    ·rw [if_pos h3]
     obtain ⟨t',f1,f2⟩:=mU hs l1 b1
     simp (disch:=first|exact h3|omega) only [jU,st,si,e1,e2,h1,ne_eq,not_true,hw.len,h2,BC,e3,eB,f1]
     exact ⟨_,rfl,f2⟩
   ·rw [if_neg (by omega),if_pos h2]
    obtain ⟨t',f1,f2⟩:=mU hs l1 b1
    simp (disch:=omega) only [jU,st,si,e1,e2,h1,ne_eq,not_true,hw.len,eB,f1]
    exact ⟨_,rfl,f2⟩
  ·rw [if_pos h1]
   obtain ⟨t',f1,f2⟩:=mU hs l1 b1
   simp (disch:=first|exact h1|omega) only [jU,st,si,e1,e2,eB,f1]
   exact ⟨_,rfl,f2⟩) (by omega)
def Dw (m:List Nat) (i:Nat) (bs:List Nat):Nat→List Fl→Prop
 |_, []=>True
 |j,y::l=>((fixed m i j=true∨((∃ts,y.f.t=some ts∧ ∀b,b∈bs→b∉ts)∧y.f.w=some []∧ ∀b,b∈bs→ ¬(y.f.lo≤b∧b<y.f.hi)))∧ ∀b,b∈bs→b∉y.z)∧Dw m i bs (j+1) l
def Es (m:List Nat) (L:List Fl):Nat→List Fl→Prop
 |_, []=>True
 |i,x::l=>(x.f.w=some []∨ ∃bs,x.f.w=some bs∧Dw m i bs 0 L)∧Es m L (i+1) l
theorem Dw.at {m:List Nat} {i:Nat} {bs:List Nat} : ∀ {l:List Fl} {j k:Nat} {y:Fl},Dw m i bs j l→l[k]? =some y→(fixed m i (j+k)=true∨((∃ts,y.f.t=some ts∧ ∀b,b∈bs→b∉ts)∧y.f.w=some []∧ ∀b,b∈bs→ ¬(y.f.lo≤b∧b<y.f.hi)))∧ ∀b,b∈bs→b∉y.z
 |x::l,j,0,y,h,hk=>by simp at hk;subst hk;exact h.1
 |x::l,j,k+1,y,h,hk=>by
  have:=Dw.at (k:=k) h.2 (by simpa using hk)
  rwa [show j+1+k=j+(k+1) by omega] at this
theorem Es.at {m:List Nat} {L:List Fl} : ∀ {l:List Fl} {i k:Nat} {x:Fl},Es m L i l→l[k]? =some x→x.f.w=some []∨ ∃bs,x.f.w=some bs∧Dw m (i+k) bs 0 L
 |x::l,i,0,y,h,hk=>by simp at hk;subst hk;exact h.1
 |x::l,i,k+1,y,h,hk=>by
  have:=Es.at (k:=k) h.2 (by simpa using hk)
  rwa [show i+1+k=i+(k+1) by omega] at this
theorem C5 {x y:de} {bs ts:List Nat} (hx:x.w=some bs) (h1:y.t=some ts) (ht: ∀b,b∈bs→b∉ts) (h2:y.w=some []) (h3: ∀b,b∈bs→ ¬(y.lo≤b∧b<y.hi)):x.fF y=false:=by
 have hm:Reach.meets (some bs) (some [])=false:=by cases bs<;>rfl
 have sN:Reach.meets (some bs) (some ts)=false:=by
  cases bs with
  |nil=>rfl
  |cons b bs=>cases ts with
   |nil=>rfl
   |cons c ts=>
    simp only [Reach.meets]
    rw [List.any_eq_false]
    intro b' gY he
    exact ht b' gY (by simpa using he)
 unfold de.fF
 rw [hx,h1,h2,hm,sN]
 simp only [Bool.false_or]
 rw [List.any_eq_false]
 intro b hb
 have:=h3 b hb
 rw [Bool.and_eq_true,Nat.ble_eq,Nat.blt_eq]
 exact this
theorem drE {m:List Nat} {l:List Fl} (h:Es m l 0 l):bE m l=true:=by
 have Bm: ∀i x,l[i]? =some x→x.f.w=some []∨ ∃bs,x.f.w=some bs∧Dw m i bs 0 l:=fun i x hx=>by
  have:=h.at hx
  rwa [Nat.zero_add] at this
 unfold bE
 rw [Bool.and_eq_true]
 constructor
 ·rw [List.all_eq_true]
  rintro ⟨x,i⟩ hx
  have hx':=qO hx
  rcases Bm i x hx' with h1|⟨bs,h1,h2⟩
  ·simp only [h1]
  ·have gh:(l.zipIdx.all fun y=> !(x.f.fF y.1.f) || fixed m i y.2)=true:=by
    rw [List.all_eq_true]
    rintro ⟨y,j⟩ hy
    have h3:=(h2.at (qO hy)).1
    rw [Nat.zero_add] at h3
    rcases h3 with h3|⟨⟨ts,h3,h6⟩,h4,h5⟩
    ·simp only [h3,Bool.or_true]
    ·simp only [C5 h1 h3 h6 h4 h5,Bool.not_false,Bool.true_or]
   simp only [h1]
   cases bs with
   |nil=>rfl
   |cons b bs=>exact gh
 ·unfold MF
  rw [Bool.and_eq_true]
  constructor
  ·rw [List.all_eq_true]
   intro x hx
   split
   ·rfl
   ·rename_i z hz
    rw [List.all_eq_true]
    intro y hy
    obtain ⟨j,hj⟩:=List.getElem?_of_mem hy
    obtain ⟨k,hk⟩:=List.getElem?_of_mem hx
    rcases Bm j y hj with h1|⟨bs,h1,h2⟩
    ·rw [h1];rfl
    ·rw [h1]
     have h4:=(h2.at hk).2
     cases bs with
     |nil=>rfl
     |cons b bs=>
      cases QX:x.z with
      |nil=>simp [Reach.meets]
      |cons c cs=>
       simp only [Reach.meets]
       rw [Bool.not_eq_true',List.any_eq_false]
       intro c' xR he
       exact h4 c' xR (by rw [QX];simpa using he)
  ·rw [Bool.or_eq_true]
   left
   rw [List.all_eq_true]
   intro x hx
   obtain ⟨j,hj⟩:=List.getElem?_of_mem hx
   rcases Bm j x hj with h1|⟨bs,h1,_⟩<;>rw [h1]<;>rfl
theorem Es.q {m:List Nat} {L l:List Fl} {i:Nat} {t:Reach} {lo hi:Nat} {z:List Nat} (h:Es m L (i+1) l):Es m L i (lh t lo hi z::l):=⟨.inl rfl,h⟩
theorem Es.w {m:List Nat} {L l:List Fl} {i:Nat} {t w:Reach} {lo hi:Nat} {z:List Nat} (hw:w=some []∨ ∃bs,w=some bs∧Dw m i bs 0 L) (h:Es m L (i+1) l):Es m L i (⟨⟨t,w,lo,hi⟩,z⟩::l):=⟨hw,h⟩
theorem Dw.n {m:List Nat} {i j:Nat} {bs:List Nat} {l:List Fl} {lo:Nat} (h:Dw m i bs (j+1) l):Dw m i bs j (lh (some []) lo lo []::l):=⟨⟨.inr ⟨⟨[],rfl,fun _ _ h=>(by cases h)⟩,rfl,fun b _ h=>by simp only [lh] at h;omega⟩,fun b _ h=>by cases h⟩,h⟩
theorem Dw.l {m:List Nat} {i j:Nat} {bs:List Nat} {l:List Fl} {lo hi:Nat} (hb: ∀b,b∈bs→b<lo) (h:Dw m i bs (j+1) l):Dw m i bs j (lh (some []) lo hi []::l):=⟨⟨.inr ⟨⟨[],rfl,fun _ _ h=>(by cases h)⟩,rfl,fun b gY h=>by have:=hb b gY;simp only [lh] at h;omega⟩,fun b _ h=>by cases h⟩,h⟩
theorem Dw.t {m:List Nat} {i j:Nat} {bs ts:List Nat} {l:List Fl} {lo:Nat} (ht: ∀b,b∈bs→b∉ts) (h:Dw m i bs (j+1) l):Dw m i bs j (lh (some ts) lo lo []::l):=⟨⟨.inr ⟨⟨ts,rfl,ht⟩,rfl,fun b _ h=>by simp only [lh] at h;omega⟩,fun b _ h=>by cases h⟩,h⟩
theorem Dw.f {m:List Nat} {i j:Nat} {bs:List Nat} {l:List Fl} {f:de} (hf:fixed m i j=true) (h:Dw m i bs (j+1) l):Dw m i bs j (⟨f, []⟩::l):=⟨⟨.inl hf,fun b _ h=>by cases h⟩,h⟩
theorem Dw.z {m:List Nat} {i j:Nat} {bs:List Nat} {l:List Fl} {f:de} {z:List Nat} (hf:fixed m i j=true) (hz: ∀b,b∈bs→b∉z) (h:Dw m i bs (j+1) l):Dw m i bs j (⟨f,z⟩::l):=⟨⟨.inl hf,hz⟩,h⟩
structure G3 (s:S):Prop where
 h0:s.h.get 0=some g0
 h1:s.h.get 1=some g1
 h2:s.h.get 2=some g2
theorem G3.kp {s t:S} (h:G3 s) (h3:3≤s.n) (hk:Kp s t []):G3 t:=
 ⟨by rw [hk.2 0 (by omega) (by simp)];exact h.h0,by rw [hk.2 1 (by omega) (by simp)];exact h.h1,by rw [hk.2 2 (by omega) (by simp)];exact h.h2⟩
theorem c21 {s:S} (h:G3 s) (hs:s.wm=s.n):cx 21 [] s=some (.bool true,s):=
 G8 (O:=OL) (g:=rG) rfl (by unfold rG;rw [if_pos ⟨rfl,h.h0,h.h1,h.h2⟩]) (by omega)
theorem call21 {dr st:Bool} {s:S} (h:G3 s) (hs:s.wm≤s.n):au cx dr st (.fn 21 [] []) [] s=some (.bool true,s):=by
 have hc:=c21 (s:= { s with wm:=s.n }) ⟨h.h0,h.h1,h.h2⟩ rfl
 unfold au
 simp only [List.nil_append,List.append_nil,List.any_nil,dA,hc]
 have hd:xa dr st [] (Nat.ble s.n s.n)=true:=by
  have:Nat.ble s.n s.n=true:=by rw [Nat.ble_eq];exact Nat.le_refl _
  rw [this];cases dr<;>cases st<;>rfl
 simp only [hd,least]
 rw [Nat.min_eq_left hs]
def nR (s₀ s:S) (x:V) (a:List Int):Prop:=Fr s₀ s x a.length (Bs a)∨Is .u8 x a
theorem nR.mono {s₀ s s':S} {x:V} {a:List Int} (h:nR s₀ s x a) (hn:s.n≤s'.n) (hr: ∀c cs,Rd s c cs→c<s.n→c∈aA x→Rd s' c cs):nR s₀ s' x a:=h.imp (fun h=>h.mono hn hr) id
theorem nR.kp {s₀ s s':S} {x:V} {a:List Int} {X:List Nat} (h:nR s₀ s x a) (hk:Kp s s' X) (hx: ∀b,b∈aA x→b∉X):nR s₀ s' x a:=h.imp (fun h=>h.kp hk hx) id
theorem nR.fz {s₀ s:S} {x:V} {a:List Int} (h:nR s₀ s x a): ∃x' bs,Fz s x x' bs∧Is .u8 x' a∧(∀b,b∈bs→s₀.n≤b)∧ ∀b,b∈bs→b∈aA x:=by
 rcases h with h|h
 ·obtain ⟨x',bs,h1,h2,h3,h4⟩:=h.fz (aS _ _)
  exact ⟨x',bs,h1,h2,h3,h4⟩
 ·exact ⟨x, [],.at _ (Is.atom h),h,(fun b h=>by cases h),(fun b h=>by cases h)⟩
theorem nR.args {s₀ s:S} {x:V} {a:List Int} (h:nR s₀ s x a) (rest:List V) (hr:rest.all cm=true): ∃x' bs s₁,bK (X.aw s) (x::rest) (x'::rest) bs s₁∧Is .u8 x' a∧(∀b,b∈bs→s₀.n≤b)∧ ∀b,b∈bs→b∈aA x:=by
 obtain ⟨x',bs,h1,h2,h3,h4⟩:=(show nR s₀ (X.aw s) x a from h).fz
 have h5:=bK.cons (X.aw s) _ x x' bs rest rest [] (.one _ _ _ h1) (bK.ats (mark bs (X.aw s)) hr)
 rw [List.append_nil] at h5
 exact ⟨x',bs,_,h5,h2,h3,h4⟩
theorem nR.OG {s₀ s:S} {x y:V} {a b:List Int} (h:nR s₀ s x a) (h':nR s₀ s y b): ∃x' y' bs s₁,bK (X.aw s) [x,y] [x',y'] bs s₁∧Is .u8 x' a∧Is .u8 y' b∧(∀c,c∈bs→s₀.n≤c)∧ ∀c,c∈bs→c∈aA x∨c∈aA y:=by
 obtain ⟨x',bs,h1,h2,h3,h4⟩:=(show nR s₀ (X.aw s) x a from h).fz
 have hm:nR s₀ (mark bs (X.aw s)) y b:=h'.mono (by rw [(uO bs _).1];exact Nat.le_refl _) (fun c cs hr _ _=>qI bs _ hr)
 obtain ⟨y',cs,g1,g2,g3,g4⟩:=hm.fz
 refine ⟨x',y',bs++(cs++ []),_,bK.cons _ _ x x' bs _ _ _ (.one _ _ _ h1) (bK.cons _ _ y y' cs _ _ _ (.one _ _ _ g1) (.nil _)),h2,g2,fun c hc=> ?_,fun c hc=> ?_⟩
 ·rw [List.append_nil] at hc
  exact (List.mem_append.1 hc).elim (h3 c) (g3 c)
 ·rw [List.append_nil] at hc
  exact (List.mem_append.1 hc).imp (h4 c) (g4 c)
theorem CU {cf:CF} {st:Bool} {f:Nat} {x:V} {a:List Int} {s₀ s:S} {P:V→Prop} (hl:Loc s₀ s) (hx:nR s₀ s x a) (hc: ∀x',Is .u8 x' a→eL cf f [x'] P):
  ∃v,P v∧ ∃s',au cf false st (.fn f [] []) [x] s=some (v,s')∧Loc s₀ s'∧Kp s s' (aA x)∧s'.n=s.n∧ ∀c cs,Rd s c cs→Rd s' c cs:=by
 obtain ⟨x',bs,s₁,h1,h2,h3,h4⟩:=hx.args [] rfl
 obtain ⟨v,hv,s',h5,h6,h7,h8,h9⟩:=lM (dr:=false) (st:=st) hl h1 h3 (fun _ h=>by cases h) (hc x' h2)
 exact ⟨v,hv,s',h5,h6,h7.mono h4,h8,h9⟩
theorem qE {x:Int×Nat} (h:H6 x):(ed x).length≤54:=by
 have h1:=nL (x:=x.1.natAbs) (by have:=h.2.1;omega)
 have h2:=nL (x:=x.2) (by have:=h.2.2;omega)
 have hq:=rV x.2
 have e1:(iF x.1).length≤2:=by unfold iF;rw [List.length_cons];omega
 have e2:(iF (qi x.2)).length≤2:=by unfold iF;rw [List.length_cons,(nf x.2).1];omega
 have l1:=iw (gT x.1) (by omega)
 have l2:=iw (gT (qi x.2)) (by omega)
 unfold ed oZ
 rw [List.length_append];omega
theorem zA: ∀ {bs:List Bx},(∀b,b∈bs→b.ti)→(bs.flatMap gX).length≤216*bs.length
 | [],_=>by simp
 |b::bs,h=>by
  obtain ⟨h1,h2,h3,h4⟩:=h b (by simp)
  have:=qE h1
  have:=qE h2
  have:=qE h3
  have:=qE h4
  have ih:=zA (bs:=bs) (fun x hx=>h x (by simp [hx]))
  rw [List.flatMap_cons,List.length_append,List.length_cons]
  unfold gX at*
  simp only [List.length_append] at*
  omega
theorem Pm.ti.enc {p:Pm} (h:p.ti):(dz p).length≤2000:=by
 have r3: ∀x,x∈ [p.host,p.dU,p.eD]→fk x:=fun x hx=>by
  simp only [List.mem_cons,List.not_mem_nil,or_false] at hx
  rcases hx with rfl|rfl|rfl
  ·exact h.host
  ·exact h.dU
  ·exact h.eD
 have l1:=iw r3 (by simp)
 have yD:=h.lp
 have Br:=h.lb
 have l2:=iw h.parts (by omega)
 have l3:=zA h.boxes
 unfold dz
 simp only [List.length_append,List.length_cons,List.length_nil] at*
 omega
theorem yl {l:List Int} (h: ∀x,x∈l→fk x):bytes (l.flatMap dH):=fun y hy=>by
 obtain ⟨x,hx,hy⟩:=List.mem_flatMap.1 hy
 exact ra (h x hx) y hy
theorem kx {l:List Int} (h: ∀x,x∈l→fk x) (hl:l.length≤1000000000):bytes (eC l):=fc (ra (by unfold fk;omega)) (yl h)
theorem ky {x:Int×Nat} (h:qJ x):bytes (ed x):=by
 have hq:=rV x.2
 have h1:=h.2.1
 have h2:=h.2.2
 refine fc (kx (gT _) ?_) (kx (gT _) ?_)
 ·unfold iF;rw [List.length_cons];omega
 ·unfold iF;rw [List.length_cons,(nf x.2).1];omega
theorem rb {p:Pm} (h:p.ok):bytes (dz p):=by
 have r3: ∀x,x∈ [p.host,p.dU,p.eD]→fk x:=fun x hx=>by
  simp only [List.mem_cons,List.not_mem_nil,or_false] at hx
  rcases hx with rfl|rfl|rfl
  ·exact h.host
  ·exact h.dU
  ·exact h.eD
 have yD:=h.lp
 refine fc (fc (kx r3 (by simp)) (kx h.parts (by omega))) (fun y hy=> ?_)
 obtain ⟨b,hb,hy⟩:=List.mem_flatMap.1 hy
 obtain ⟨o1,o2,o3,o4⟩:=h.boxes b hb
 exact fc (ky o1) (fc (ky o2) (fc (ky o3) (ky o4))) y hy
end Go.Vm.X
end
