/-
  A part of the proof of PromiseBytes: lemmas, in short letters, printed by a program out of the longer texts; conditions: those that each lemma names.
-/
import Derived.Test.YtalmddmghdinkaaGreatDoorRows
import Derived.ProofKit
import Derived.LaidMore
import Derived.OpenShut
import Derived.Stop.Joined
import Derived.Test.YtalmddmghdinkaaGreatDoorY
set_option linter.all false
set_option linter.deprecated false
noncomputable section
set_option linter.all false
namespace Go.Vm.X
open Go Go.Vm Go.Proofs.bt
def VL (cf:CF) (n:Nat) (s:S) (nP:List V) (ZK:S):bB:=
 ae (aN (nth nP 1)) fun aaj=>
 af (au cf false true (.fn 26 [] []) [(nth nP 1),aaj] ZK) fun SS R7=>
 ae (mK .u8 (nth nP 0)) fun aak=>
 ae (ck 1 SS (nth nP 2)) fun aal=>
 af (aq R7 (aB 1 aal aak (aw R7))) fun acz R8=>
 ai (aj none R8 (bk R8 SS)) fun aam R9 abq=>
 ai (aj none R9 (bk R9 (nth nP 1))) fun aan Sa abr=>
 ai (aj none Sa (bk Sa (nth nP 2))) fun aao Sb abt=>
 ai (aj none Sb (aH cf (.fn 26 [] []) [aan,aao] Sb)) fun Mw Sc abu=>
 ai (aj none Sc (bk Sc (nth nP 1))) fun aap Sd abv=>
 ai (aj none Sd (bk Sd (nth nP 2))) fun aaq Se abw=>
 ai (aj none Se (ar (some []) Se (an .add y3 aaq (.int .i64 1)))) fun aar Sf abx=>
 ai (aj none Sf (ar (some []) Sf (gE 1 aap (some aar) none none))) fun SU L9 aby=>
 ai (aj none L9 (dD (some ([Mw,SU].flatMap ag.aF)) (some (ag.aF Mw)) L9 (bT iE 5 Mw SU (aw L9)))) fun aas Sg abz=>
 ai (aj none Sg (bk Sg (nth nP 1))) fun aat Sh abA=>
 ai (aj none Sh (bk Sh (nth nP 2))) fun aau Si abB=>
 ai (aj none Si (aH cf (.fn 26 [] []) [aat,aau] Si)) fun Mx Sj abC=>
 ai (aj none Sj (bk Sj (nth nP 0))) fun SV Sk abD=>
 ai (aj none Sk (ar (some (ag.aF SV)) Sk (mK .u8 SV))) fun aav Ma abE=>
 ai (aj none Ma (dD (some []) (some []) Ma (dL 1 1 5 (bz 1 [(.int .u8 0)]) [(0,1,aav)] (aw Ma)))) fun SW Mb abF=>
 ai (aj none Mb (dD (some ([Mx,SW].flatMap ag.aF)) (some (ag.aF Mx)) Mb (bT iE 5 Mx SW (aw Mb)))) fun My Sl abG=>
 ai (aj none Sl (bk Sl (nth nP 1))) fun aaw Sn abH=>
 ai (aj none Sn (bk Sn (nth nP 2))) fun aax So abI=>
 ai (aj none So (ar (some []) So (gE 1 aaw (some aax) none none))) fun SX Mc abJ=>
 ai (aj none Mc (dD (some ([My,SX].flatMap ag.aF)) (some (ag.aF My)) Mc (bT iE 5 My SX (aw Mc)))) fun aay Sp abK=>
 ai (aj none Sp (bk Sp (nth nP 3))) fun aaz Sq abL=>
 ai (aj none Sq (bk Sq (nth nP 3))) fun SY Sr abM=>
 ai (aj none Sr (ar (some ([SY].flatMap ag.aF)) Sr (aN SY))) fun SZ Ss abN=>
 ai (aj none Ss (ar (some ([SZ,(.int .i64 30)].flatMap ag.aF)) Ss (EB false [SZ,(.int .i64 30)]))) fun aaA Su abO=>
 ai (aj none Su (ar (some []) Su (gE 1 aaz none (some aaA) none))) fun aaB Md abP=>
 ai (aj none Md (dD (some []) (some []) Md (dL 1 4 70 (bz 4 [.ah]) [(0,1,aam),(1,1,aas),(2,1,aay),(3,1,aaB)] (aw Md)))) fun aaC Sv abQ=>
 ai (aj none Sv (bk Sv aaC)) fun aaD ZL abR=>
 bU (bE [0,0,0,6,0,0,32,112,254,0,0,2046,0,4096,12288,32766,0,0,196608,524286,0,0,2097152,6291456,15728640,33554431,67108863] [abq,abr,abt,abu,abv,abw,abx,aby,abz,abA,abB,abC,abD,abE,abF,abG,abH,abI,abJ,abK,abL,abM,abN,abO,abP,abQ,abR]) <|
 jn (fun acC ZM=>
 af (au cf false false (.fn 21 [] []) [] ZM) fun aaE ZN=>
 aC s ZN [some aaE]) fun YJ=>
 bJ n (fun Q0 H8 Sw=>
 ae (aN (nth H8 1)) fun aaF=>
 ae (an .lss y3 (nth H8 0) aaF) fun aaG=>
 jn (fun BY Sx=>
 jn (fun S2 ZO=>
 ae (an .add y3 (nth S2 0) (.int .i64 1)) fun aaH=>
 Q0 [aaH,(nth S2 1)] ZO) fun YL=>
 ae (ck 1 (nth BY 1) (nth BY 0)) fun aaI=>
 ae (aM Sx aaI) fun aaJ=>
 af (au cf false true (.fn 25 [] []) [aaJ] Sx) fun Mz Sy=>
 ae (cV 0 Mz) fun aaK=>
 ae (cV 1 Mz) fun aaL=>
 ae (cV 2 Mz) fun aaM=>
 af (aq Sy (aT [(.int .i64 0),(.int .i64 0),(.int .i64 0),.ah,.ah] 55 (aw Sy))) fun S0 Sz=>
 af (aq Sz (aB 5 S0 aaK (aw Sz))) fun acA SA=>
 ae (ck 1 (nth BY 1) (nth BY 0)) fun aaN=>
 ae (aM SA aaN) fun aaO=>
 af (au cf false true (.fn 27 [] []) [aaO] SA) fun MA SB=>
 ae (cV 0 MA) fun aaP=>
 ae (cV 1 MA) fun aaQ=>
 ae (cV 2 MA) fun aaR=>
 af (aq SB (aT [(.int .i64 0),(.int .i64 0),(.int .i64 0),.ah,.ah] 37 (aw SB))) fun S1 SC=>
 af (aq SC (aB 5 S1 aaP (aw SC))) fun acB Me=>
 ae (an .neq (Tr.get types 58) aaM aaR) fun H7=>
 ae (ay H7 false (some aaL)) fun aaS=>
 ae (ay H7 false (some aaQ)) fun aaT=>
 ae (ay H7 false (an .neq y3 aaS aaT)) fun aaV=>
 ae (bn H7 (.bool true) aaV) fun BX=>
 ae (ay BX false (aD 5 Me S0)) fun aaX=>
 af (fT BX false (au cf true false (.fn 17 [] []) [aaX] Me) Me) fun aaY Mf=>
 ae (ay BX false (aD 5 Mf S1)) fun aaZ=>
 af (fT BX false (au cf true false (.fn 16 [] []) [aaY,aaZ] Mf) Mf) fun aa0 SD=>
 ae (ay BX false (un .not aa0)) fun aa1=>
 ae (bn BX (.bool true) aa1) fun aa2=>
 jn (fun S3 ZP=>
 YL [(nth S3 0),(nth S3 1)] ZP) fun YM=>
 ax aa2
 (
 aC s SD [some (.bool false)])
 (
 YM [(nth BY 0),(nth BY 1)] SD)) fun YK=>
 ax aaG
 (
 YK [(nth H8 0),(nth H8 1)] Sw)
 (
 YJ [] Sw)) [(.int .i64 0),aaD] ZL
def VK (cf:CF) (n:Nat) (s:S) (Co:List V) (s78:S):bB:=
 ae (aN (nth Co 3)) fun v79=>
 af (au cf false true (.fn 26 [] []) [(nth Co 3),v79] s78) fun v80 s81=>
 af (au cf false true (.fn 26 [] []) [(nth Co 4),(.int .i64 30)] s81) fun v82 s83=>
 af (aq s83 (bT iE 5 v80 v82 (aw s83))) fun v84 s85=>
 af (au cf false true (.fn 25 [] []) [v84] s85) fun v86 s87=>
 ae (cV 0 v86) fun v88=>
 ae (cV 1 v86) fun v89=>
 ae (cV 2 v86) fun v90=>
 af (aq s87 (aT [(.int .i64 0),(.int .i64 0),(.int .i64 0),.ah,.ah] 55 (aw s87))) fun v91 s92=>
 af (aq s92 (aB 5 v91 v88 (aw s92))) fun v93 s94=>
 ae (aN (nth Co 3)) fun v95=>
 af (au cf false true (.fn 9 [] []) [(nth Co 0),v95] s94) fun v96 s97=>
 ae (gE 1 (nth Co 3) none (some v96) none) fun v98=>
 af (au cf false true (.fn 25 [] []) [v98] s97) fun v99 RI=>
 ae (cV 0 v99) fun Z1=>
 ae (cV 1 v99) fun acx=>
 ae (cV 2 v99) fun Z2=>
 af (aq RI (aT [(.int .i64 0),(.int .i64 0),(.int .i64 0),.ah,.ah] 55 (aw RI))) fun Z3 RJ=>
 af (aq RJ (aB 5 Z3 Z1 (aw RJ))) fun acy RK=>
 ai (aj none RK (bk RK v90)) fun Z4 RL aa7=>
 ai (aj none RL (ar (some []) RL (an .neq (Tr.get types 58) Z4 (.int .i64 0)))) fun Z5 RN aa8=>
 ai (aj none RN (bk RN Z5)) fun Fy RO aa9=>
 ai (aj (some (Fy,false)) RO (bk RO v89)) fun Z6 RQ aba=>
 ai (aj (some (Fy,false)) RQ (bk RQ (nth Co 3))) fun SR RS abb=>
 ai (aj (some (Fy,false)) RS (ar (some ([SR].flatMap ag.aF)) RS (aN SR))) fun Z7 RT abc=>
 ai (aj (some (Fy,false)) RT (ar (some []) RT (an .neq y3 Z6 Z7))) fun Z8 RU abd=>
 ai (aj none RU (ar (some []) RU (bn Fy (.bool true) Z8))) fun Z9 RX abe=>
 ai (aj none RX (bk RX Z9)) fun BW L7 abf=>
 ai (aj (some (BW,false)) L7 (ar (some (ag.aF v91)) L7 (aD 5 L7 v91))) fun aaa RY abg=>
 ai (aj (some (BW,false)) RY (aH cf (.fn 17 [] []) [aaa] RY)) fun aab L8 abh=>
 ai (aj (some (BW,false)) L8 (ar (some (ag.aF (nth Co 1))) L8 (aD 5 L8 (nth Co 1)))) fun aac RZ abi=>
 ai (aj (some (BW,false)) RZ (aH cf (.fn 16 [] []) [aab,aac] RZ)) fun aad R0 abj=>
 ai (aj (some (BW,false)) R0 (ar (some []) R0 (un .not aad))) fun aae R1 abk=>
 ai (aj none R1 (ar (some []) R1 (bn BW (.bool true) aae))) fun aaf R2 abl=>
 ai (aj none R2 (bk R2 aaf)) fun Mv R3 abm=>
 ai (aj (some (Mv,false)) R3 (bk R3 Z2)) fun aag R4 abn=>
 ai (aj (some (Mv,false)) R4 (ar (some []) R4 (an .neq (Tr.get types 58) aag (.int .i64 2)))) fun aah R5 abo=>
 ai (aj none R5 (ar (some []) R5 (bn Mv (.bool true) aah))) fun aai R6 abp=>
 bU (bE [0,1,3,7,7,23,63,127,255,511,1023,511,4095,8191,16383,32767,65535,131071,262143] [aa7,aa8,aa9,aba,abb,abc,abd,abe,abf,abg,abh,abi,abj,abk,abl,abm,abn,abo,abp]) <|
 jn (VL cf n s) fun YI=>
 ax aai
 (
 aC s R6 [some (.bool false)])
 (
 YI [(nth Co 2),(nth Co 3),v96,(nth Co 4)] R6)
def T4a (cf:CF) (n:Nat) (a0 a1 a2 a3:V) (s:S):bB:=
 af (au cf false true (.fn 7 [] []) [a0] s) fun v1 s2=>
 af (aq s2 (aT [(.int .i64 0),(.int .i64 0),(.int .i64 0),.ah,.ah] 37 (aw s2))) fun v3 s4=>
 af (aq s4 (aB 5 v3 v1 (aw s4))) fun v5 s6=>
 ae (aD 5 s6 v3) fun v7=>
 af (au cf false true (.fn 8 [] []) [v7,a1,a2] s6) fun v8 s9=>
 af (aq s9 (aT [(.int .i64 0),(.int .i64 0),(.int .i64 0),.ah,.ah] 37 (aw s9))) fun v10 RM=>
 af (aq RM (aB 5 v10 v8 (aw RM))) fun v12 s13=>
 ae (aD 5 s13 v3) fun v14=>
 af (au cf false false (.fn 12 [] []) [v14] s13) fun v15 s16=>
 af (au cf false false (.fn 22 [] []) [v15] s16) fun v17 s18=>
 ai (aj none s18 (bk s18 v17)) fun v19 s20 x21=>
 ai (aj none s20 (ar (some ([v19].flatMap ag.aF)) s20 (aN v19))) fun v22 s23 x24=>
 ai (aj none s23 (ar (some []) s23 (an .eql y3 v22 (.int .i64 0)))) fun v25 s26 x27=>
 ai (aj none s26 (bk s26 v25)) fun FY s29 x30=>
 ai (aj (some (FY,false)) s29 (bk s29 v17)) fun v31 ZQ x33=>
 ai (aj (some (FY,false)) ZQ (ar (some (ag.aF v3)) ZQ (aD 5 ZQ v3))) fun v34 s35 x36=>
 ai (aj (some (FY,false)) s35 (aH cf (.fn 24 [] []) [v34] s35)) fun v37 s38 x39=>
 ai (aj (some (FY,false)) s38 (aH cf (.fn 23 [] []) [v31,v37] s38)) fun v40 s41 x42=>
 ai (aj (some (FY,false)) s41 (ar (some []) s41 (un .not v40))) fun v43 s44 x45=>
 ai (aj none s44 (ar (some []) s44 (bn FY (.bool true) v43))) fun v46 s47 x48=>
 ai (aj none s47 (bk s47 v46)) fun FZ ZR x51=>
 ai (aj (some (FZ,false)) ZR (ar (some (ag.aF v10)) ZR (aD 5 ZR v10))) fun v52 s53 x54=>
 ai (aj (some (FZ,false)) s53 (aH cf (.fn 12 [] []) [v52] s53)) fun v55 s56 x57=>
 ai (aj (some (FZ,false)) s56 (aH cf (.fn 22 [] []) [v55] s56)) fun v58 ZS x60=>
 ai (aj (some (FZ,false)) ZS (ar (some (ag.aF v10)) ZS (aD 5 ZS v10))) fun v61 s62 x63=>
 ai (aj (some (FZ,false)) s62 (aH cf (.fn 24 [] []) [v61] s62)) fun v64 s65 x66=>
 ai (aj (some (FZ,false)) s65 (aH cf (.fn 23 [] []) [v58,v64] s65)) fun v67 s68 x69=>
 ai (aj (some (FZ,false)) s68 (ar (some []) s68 (un .not v67))) fun v70 s71 x72=>
 ai (aj none s71 (ar (some []) s71 (bn FZ (.bool true) v70))) fun v73 s74 x75=>
 bU (bE [0,1,3,7,15,15,47,127,255,511,1023,2047,4095,8191,2047,32767,65535,131071,262143] [x21,x24,x27,x30,x33,x36,x39,x42,x45,x48,x51,x54,x57,x60,x63,x66,x69,x72,x75]) <|
 jn (VK cf n s) fun j76=>
 ax v73
 (
 aC s s74 [some (.bool false)])
 (
 j76 [a2,v3,a1,v17,a3] s74)
theorem VC (cf:CF) (n:Nat) (a0 a1 a2 a3:V) (s:S):F4 cf n a0 a1 a2 a3 s=T4a cf n a0 a1 a2 a3 s:=rfl
theorem CW {cf:CF} {f:Nat} {x y:V} {a b:List Int} {s₀ s:S} {P:V→Prop} (hl:Loc s₀ s) (hx:nR s₀ s x a) (hy:nR s₀ s y b) (hc: ∀x' y',Is .u8 x' a→Is .u8 y' b→eL cf f [x',y'] P):
  ∃v,P v∧ ∃s' bs,aH cf (.fn f [] []) [x,y] s=some (v,s',lh none s.n s.n bs)∧Loc s₀ s'∧Kp s s' (aA x++aA y)∧s'.n=s.n∧ ∀c cs,Rd s c cs→Rd s' c cs:=by
 obtain ⟨x',y',bs,s₁,h1,h2,h3,h4,h5⟩:=hx.OG hy
 obtain ⟨v,hv,s',h6,h7,h8,h9,h10⟩:=xZ hl h1 h4 (hc x' y' h2 h3)
 exact ⟨v,hv,s',bs,h6,h7,h8.mono (fun c hc=>List.mem_append.2 (h5 c hc)),h9,h10⟩
theorem I7 {cf:CF} {f:Nat} {args:List V} {v:V} (h:jK cf f args v):eL cf f args (fun r=>r=v):=fun s hs=>⟨v,rfl,h s hs⟩
theorem Ow.TS {s₀ s:S} {e:Nat} {x:V} {a:List Int} (h:Ow s₀ s e 1 x a.length (Bs a)):nR s₀ s x a:= .inl h.fr
theorem wT {s:S} {b o n c:Nat} {cs:List V} {te:TI} (h:Rd s b cs) (hn:o+n≤cs.length) (ht:te.size=1):items te s (.sl b o n c 1)=some (n,(cs.drop o).take n):=by
 obtain ⟨e,bL,own,hg⟩:=h
 have h1:jl s b o (n*te.size)=some ((cs.drop o).take n):=by rw [ht,Nat.mul_one];exact jZ hg hn
 show (match jl s b o (n*te.size) with
  |some k=>some (n,k)
  |none=>none)=_
 rw [h1]
theorem xx {b l c:Nat} {k:IntKind} {i:Int} (h0:0≤i) (h1:i≤l) (hlc:l≤c):gE 1 (.sl b 0 l c 1) (some (.int k i)) none none=some (.sl b i.toNat (l - i.toNat) (c - i.toNat) 1):=by
 have e1:bound (some (.int k i)) l 0=some i.toNat:=eM h0 h1
 have h2:Nat.ble l c=true:=by rw [Nat.ble_eq];exact hlc
 simp only [gE,show bound none c c=some c from rfl,show bound none c l=some l from rfl,e1,h2,Nat.mul_one,Nat.zero_add]
theorem Mt (n:Int):0≤IntKind.u8.wrap n∧IntKind.u8.wrap n≤255:=by
 simp [IntKind.wrap,IntKind.bits,IntKind.signed];omega
def p5 (o:Option (Pm×Nat)):Pm:=match o with
 |some (p,_)=>p
 |none=>⟨0,0,0, [], []⟩
def nO (o:Option (Pm×Nat)):Int:=match o with
 |some (_,n)=>n
 |none=>0
def eO (o:Option (Pm×Nat)):Int:=match o with
 |some _=>0
 |none=>2
theorem Nq.parts {o:Option (Pm×Nat)} {r:V} (h:Nq o r): ∃d e cs,r= .dQ [.agg [.int .i64 (p5 o).host,.int .i64 (p5 o).dU,.int .i64 (p5 o).eD,d,e],.int .i64 (nO o),.int .i64 (eO o)]∧Is .i64 d (p5 o).parts∧Fs 16 e (p5 o).boxes.length cs∧iQ (p5 o).boxes cs:=by
 cases o with
 |none=>exact ⟨.ah,.ah, [],h,Is.nil _,.nil,.nil⟩
 |some q=>
  obtain ⟨p,n⟩:=q
  obtain ⟨a,rfl,d,e,cs,rfl,h1,h2,h3⟩:=h
  exact ⟨d,e,cs,rfl,h1,h2,h3⟩
theorem LL {b:List Int} (hb:bytes b) (hl:b.length≤40000):(p5 (dP b)).ok:=by
 cases h:dP b with
 |none=>exact ⟨by unfold fk;simp [p5],by unfold fk;simp [p5],by unfold fk;simp [p5],(fun x hx=>by cases hx),(fun x hx=>by cases hx),by simp [p5],by simp [p5]⟩
 |some q=>
  obtain ⟨p,n⟩:=q
  exact (Iu hb hl h).2.1
theorem J7 {a b c d:V} (ha:aR a=true) (hb:aR b=true) (hc:aR c=true) (hd:aR d=true):aI (bz 4 [.ah]) [(0,1,a),(1,1,b),(2,1,c),(3,1,d)]=some (.agg [a,b,c,d]):=by
 rw [ga ha _ _ (by decide),ga hb _ _ (by simp [bz]),ga hc _ _ (by simp [bz]),ga hd _ _ (by simp [bz])];rfl
theorem zm (e:List Int) (k:Nat):((Bs e).drop k).take (e.length - k)=Bs (e.drop k):=by
 have h:((Bs e).drop k).length=e.length - k:=by rw [List.length_drop];simp [Bs]
 rw [←h,List.take_length]
 exact List.map_drop.symm
theorem ub (a b:List Int):Bs a++Bs b=Bs (a++b):=List.map_append.symm
theorem t4c {s t:S} {E w:V} {e c:List Int} {n cut:Int} {F:Nat} (hF:F=6) (hs:s.wm=s.n) (hl:Loc s t) (hG:G3 s) (h3:3≤s.n) (hK:Kp s t []) (hE:Fr s t E e.length (Bs e)) (he:bytes e) (hel:e.length≤2000) (h0:0≤cut) (h1:cut<e.length) (hw:Is .u8 w c) (DK:bytes c):
  bW s (fun r=>r= .bool true) (VL cx F s [.int .i64 n,E,.int .i64 cut,w] t):=by
 unfold VL
 have WQ:nR s t E e:= .inl hE
 obtain ⟨E',bs1,u1,Xb,WJ,uA,PQ⟩:=WQ.args [.int .i64 e.length] rfl
 obtain ⟨D,t1,f1,o1,l1,k1,g1,r1⟩:=tf (dr:=false) (st:=true) hl Xb uA (fun _ h=>by cases h) (Pd WJ (m:=e.length) (by rw [List.length_take];omega) (by omega)) (cY _)
 rw [Int.toNat_natCast,List.take_length] at o1
 obtain ⟨p,t2,mM,f2,o2,l2,k2⟩:=Ow.put l1 o1 .i64 (i:=cut) (by omega) (by omega) (x:= .int .u8 (IntKind.u8.wrap n)) rfl
 rw [←List.map_set] at o2
 have hu:=Mt n
 have FQ:mK .u8 (.int .i64 n)=some (.int .u8 (IntKind.u8.wrap n)):=eG _ _ _
 generalize IntKind.u8.wrap n=y at*
 have hE1:Fr s t1 E e.length (Bs e):=hE.mono k1.1 (fun c cs hr hc _=>r1 c cs hr hc)
 have nE: ∀c,c∈aA E→c<t.n:=fun c hc=>by
  rcases hE with ⟨rfl,_⟩|⟨b,rfl,_,h,_⟩
  ·cases hc
  ·simp [aA] at hc;omega
 have hE2:=hE1.kp k2 (fun c hc h=>by have:=g1 c h;have:=nE c hc;omega)
 have zX:aN E=some (.int .i64 e.length):=by rcases hE with ⟨rfl,h,_⟩|⟨b,rfl,_⟩<;>(first|(rw [h];rfl)|rfl)
 have WL:nR s t2 E e:= .inl hE2
 have Qj:=k1.1
 have hk2:=k2.1
 obtain ⟨E1,VS,u3,ha3,WK,z7,Hn⟩:=WL.args [.int .i64 cut] rfl
 obtain ⟨A1,t3,i3,f3,o3,l3,k3,g3,r3⟩:=lN l2 ha3 z7 (Pd WK (m:=cut) (by rw [List.length_take];omega) (by omega) _) (cY _)
 have hk3:=k3.1
 have hE3:Fr s t3 E e.length (Bs e):=hE2.mono k3.1 (fun c cs hr hc _=>r3 c cs hr hc)
 obtain ⟨be,rfl,Xl,Xm,PT,Kt⟩:=hE3.resolve_left (fun h=>by have:=h.2.1;omega)
 have Li:=xx (b:=be) (l:=e.length) (c:=e.length) (k:= .i64) (i:=cut+1) (by omega) (by omega) (Nat.le_refl _)
 have Lj:=xx (b:=be) (l:=e.length) (c:=e.length) (k:= .i64) (i:=cut) (by omega) (by omega) (Nat.le_refl _)
 obtain ⟨A2,t4,w4,i4,f4,o4,l4,k4,g4,hw4⟩:=zp (te:=iE) (r:=some ([A1,.sl be (cut+1).toNat (e.length - (cut+1).toNat) (e.length - (cut+1).toNat) 1].flatMap ag.aF)) (w:=some (ag.aF A1)) l3 o3 (y:= .sl be (cut+1).toNat (e.length - (cut+1).toNat) (e.length - (cut+1).toNat) 1) rfl (by simp)
  (wT (s:=X.aw t3) PT (by rw [Kt];omega) rfl) (ew (by rw [List.all_eq_true];exact fun x hx=>List.all_eq_true.1 (aS .u8 e) x (List.mem_of_mem_drop (List.mem_of_mem_take hx)))) (by rw [List.length_take,List.length_drop,Kt];omega) rfl (by decide) (by rw [dO,List.length_take];omega)
 have Ly: ∀c,c∈aA A1→t2.n≤c:=g3
 have abY:be<t.n:=nE be (by simp [aA])
 have hE4:Fr s t4 (.sl be 0 e.length e.length 1) e.length (Bs e):=hE3.kp k4 (fun c hc h=>by have:=Ly c h;simp [aA] at hc;omega)
 have WM:nR s t4 (.sl be 0 e.length e.length 1) e:= .inl hE4
 have hk4:=k4.1
 obtain ⟨E5,OP,u5,ha5,WN,MX,DI⟩:=WM.args [.int .i64 cut] rfl
 obtain ⟨A3,t5,i5,f5,o5,l5,k5,g5,r5⟩:=lN l4 ha5 MX (Pd WN (m:=cut) (by rw [List.length_take];omega) (by omega) _) (cY _)
 have hk5:=k5.1
 obtain ⟨A4,t6,i6,f6,o6,l6,k6,g6⟩:=vR (e:=5) (z:=1) (len:=1) (l:= [.int .u8 y]) (c:=bz 1 [.int .u8 0]) (ps:= [(0,1,.int .u8 y)]) (r:=some []) l5 rfl rfl
 have hk6:=k6.1
 obtain ⟨A5,t7,w7,i7,f7,o7,l7,k7,g7,hw7⟩:=vO (te:=iE) (r:=some ([A3,A4].flatMap ag.aF)) (w:=some (ag.aF A3)) l6 (o5.kp k6 (fun _ _=>by simp)) o6 rfl rfl (by decide) (by rw [dO,List.length_take];omega)
 have hk7:=k7.1
 have TV:Fr s t5 (.sl be 0 e.length e.length 1) e.length (Bs e):=hE4.mono k5.1 (fun c cs hr hc _=>r5 c cs hr hc)
 have hE6:=TV.kp k6 (fun _ _=>by simp)
 have WO:Fr s t7 (.sl be 0 e.length e.length 1) e.length (Bs e):=hE6.kp k7 (fun c hc h=>by have:=g5 c h;simp [aA] at hc;omega)
 obtain ⟨Io,Bn,nT,HE,QA,M5⟩:=WO.resolve_left (fun h=>by have:=h.2.1;omega)
 simp only [V.sl.injEq,true_and,and_true] at Bn
 subst Bn
 obtain ⟨A6,t8,w8,i8,f8,o8,l8,k8,g8,hw8⟩:=zp (te:=iE) (r:=some ([A5,.sl be cut.toNat (e.length - cut.toNat) (e.length - cut.toNat) 1].flatMap ag.aF)) (w:=some (ag.aF A5)) l7 o7 (y:= .sl be cut.toNat (e.length - cut.toNat) (e.length - cut.toNat) 1) rfl (by simp)
  (wT (s:=X.aw t7) QA (by rw [M5];omega) rfl) (ew (by rw [List.all_eq_true];exact fun x hx=>List.all_eq_true.1 (aS .u8 e) x (List.mem_of_mem_drop (List.mem_of_mem_take hx)))) (by rw [List.length_take,List.length_drop,M5];omega) rfl (by decide) (by rw [dO,List.length_take];omega)
 have hk8:=k8.1
 obtain ⟨w',BC,vG⟩:=hw.SG (q':= .i64) (hi:=if (30:Int)<(c.length:Int) then 30 else (c.length:Int)) (by split<;>omega) (by split<;>omega)
 have oD:Ow s t8 5 1 D (e.set cut.toNat y).length (Bs (e.set cut.toNat y)):=by
  rw [List.length_set]
  have d2: ∀c,c∈aA D→t.n≤c∧c<t2.n:=fun c hc=>⟨g1 c hc,(o2.lo hc).2⟩
  exact (((((o2.kp k3 (fun c hc h=>by have:=d2 c hc;have:=nE c (Hn c h);omega)).kp k4 (fun c hc h=>by have:=d2 c hc;have:=Ly c h;omega)).kp k5 (fun c hc h=>by have:=d2 c hc;have:=nE c (DI c h);omega)).kp k6 (fun _ _=>by simp)).kp k7 (fun c hc h=>by have:=d2 c hc;have:=g5 c h;omega)).kp k8 (fun c hc h=>by
   have:=d2 c hc
   rcases g7 c h with h|h
   ·have:=g5 c h;omega
   ·omega)
 have Zf:Ow s t8 5 1 A2 _ _:=(((o4.kp k5 (fun c hc h=>by
   have:=nE c (DI c h)
   rcases g4 c hc with h'|h'
   ·have:=Ly c h';omega
   ·omega)).kp k6 (fun _ _=>by simp)).kp k7 (fun c hc h=>by have:=g5 c h;have:=(o4.lo hc).2;omega)).kp k8 (fun c hc h=>by
   have:=(o4.lo hc).2
   rcases g7 c h with h|h
   ·have:=g5 c h;omega
   ·omega)
 obtain ⟨V4,t9,i9,f9,o9,l9,k9,g9⟩:=vR (e:=70) (z:=1) (len:=4) (l:= [D,A2,A6,w']) (c:=bz 4 [.ah]) (ps:= [(0,1,D),(1,1,A2),(2,1,A6),(3,1,w')]) (r:=some []) l8 (J7 oD.aR Zf.aR o8.aR (Fs.aR vG)) rfl
 have QU: ∀c,c∈ [w].flatMap ag.aF→c=0:=by
  have: ∀ {k l},Is k w l→ ∀c,c∈ [w].flatMap ag.aF→c=0:=fun {k l} h=>by
   unfold Is at h
   generalize l.length=q at h
   generalize l.map (V.int k)=q' at h
   cases h with
   |nil=>intro c hc;cases hc
   |mk _ _ _=>intro c hc;simpa [List.flatMap,ag.aF] using hc
  exact this hw
 simp (disch:=omega) only [jU,st,si,sf,zX,f1,FQ,mM,f2,f3,Li,f4,f5,f6,f7,Lj,f8,hw.len,I5,BC,f9,br]
 refine wU (drE ?_) ?_
 ·have ZX:=o3.tb
  have t5':=o5.tb
  have t7':=o7.tb
  have W: ∀(A:V) (i:Nat) (L:List Fl) (w₀:Reach),(w₀=some []∨(w₀=some (ag.aF A)∧True))→Dw [0,0,0,6,0,0,32,112,254,0,0,2046,0,4096,12288,32766,0,0,196608,524286,0,0,2097152,6291456,15728640,33554431,67108863] i (ag.aF A) 0 L→w₀=some []∨ ∃bs,w₀=some bs∧Dw [0,0,0,6,0,0,32,112,254,0,0,2046,0,4096,12288,32766,0,0,196608,524286,0,0,2097152,6291456,15728640,33554431,67108863] i bs 0 L:=fun A i L w₀ h h'=>h.imp id (fun h=>⟨_,h.1,h'⟩)
  refine .q (.q (.q (.q (.q (.q (.q (.q (.w (W A1 _ _ _ (hw4.imp id (fun h=>⟨h.1,trivial⟩)) ?_) (.q (.q (.q (.q (.q (.q (.w (W A3 _ _ _ (hw7.imp id (fun h=>⟨h.1,trivial⟩)) ?_) (.q (.q (.q (.w (W A5 _ _ _ (hw8.imp id (fun h=>⟨h.1,trivial⟩)) ?_) (.q (.q (.q (.q (.q (.q (.q trivial))))))))))))))))))))))))))
  ·rw [ZX]
   have hA: ∀c,c∈aA A1→c<t5.n:=fun c hc=>by have:=(o3.lo hc).2;omega
   have PL: ∀c,c∈aA A1→c∉VS:=fun c hc h=>by have:=Ly c hc;have:=nE c (Hn c h);omega
   have PN: ∀c,c∈aA A1→c∉OP:=fun c hc h=>by have:=Ly c hc;have:=nE c (DI c h);omega
   have hT: ∀c,c∈aA A1→c∉ [w].flatMap ag.aF:=fun c hc h=>by have:=QU c h;have:=Ly c hc;omega
   repeat' first
    |exact trivial
    |refine Dw.f (by decide) ?_
    |refine Dw.n ?_
    |refine Dw.l hA ?_
    |refine Dw.t hT ?_
    |refine Dw.z (by decide) PL ?_
    |refine Dw.z (by decide) PN ?_
  ·rw [t5']
   have lo: ∀c,c∈aA A3→t4.n≤c:=g5
   have PL: ∀c,c∈aA A3→c∉VS:=fun c hc h=>by have:=lo c hc;have:=nE c (Hn c h);omega
   have PN: ∀c,c∈aA A3→c∉OP:=fun c hc h=>by have:=lo c hc;have:=nE c (DI c h);omega
   have hT: ∀c,c∈aA A3→c∉ [w].flatMap ag.aF:=fun c hc h=>by have:=QU c h;have:=lo c hc;omega
   repeat' first
    |exact trivial
    |refine Dw.f (by decide) ?_
    |refine Dw.n ?_
    |refine Dw.t hT ?_
    |refine Dw.z (by decide) PL ?_
    |refine Dw.z (by decide) PN ?_
  ·rw [t7']
   have lo: ∀c,c∈aA A5→t4.n≤c:=fun c hc=>(g7 c hc).elim (g5 c) (fun h=>by omega)
   have PL: ∀c,c∈aA A5→c∉VS:=fun c hc h=>by have:=lo c hc;have:=nE c (Hn c h);omega
   have PN: ∀c,c∈aA A5→c∉OP:=fun c hc h=>by have:=lo c hc;have:=nE c (DI c h);omega
   have hT: ∀c,c∈aA A5→c∉ [w].flatMap ag.aF:=fun c hc h=>by have:=QU c h;have:=lo c hc;omega
   repeat' first
    |exact trivial
    |refine Dw.f (by decide) ?_
    |refine Dw.n ?_
    |refine Dw.t hT ?_
    |refine Dw.z (by decide) PL ?_
    |refine Dw.z (by decide) PN ?_
 ·
  have lD: ∀c,c∈aA D→t.n≤c:=g1
  have K9:Kp s t9 []:=by
   have ge: ∀ {X:List Nat},(∀c,c∈X→s.n≤c)→ ∀c,c∈X→c∈([]:List Nat)∨s.n≤c:=fun h c hc=> .inr (h c hc)
   have Um:=l1.n
   have hln:=hl.n
   refine ((((((((hK.trans k1 (ge uA)).trans k2 (ge fun c hc=>by have:=g1 c hc;omega)).trans k3 (ge z7)).trans k4 (ge fun c hc=>by have:=Ly c hc;omega)).trans k5 (ge MX)).trans k6 (ge fun c hc=>by cases hc)).trans k7 (ge fun c hc=>by have:=g5 c hc;omega)).trans k8 (ge fun c hc=> ?_)).trans k9 (ge fun c hc=>by cases hc)
   rcases g7 c hc with h|h
   ·have:=g5 c h;omega
   ·omega
  obtain ⟨bv,bL,rfl,hV⟩:=o9.Q1 (by omega)
  have Xs:t8.n≤bv:=g9 bv (by simp [aA])
  have hln:=hl.n
  have ll:(e.take cut.toNat).length=cut.toNat:=by rw [List.length_take];omega
  have cA2:Bs (e.take cut.toNat)++((Bs e).drop (cut+1).toNat).take (e.length - (cut+1).toNat)=Bs (e.take cut.toNat++e.drop (cut+1).toNat):=by rw [zm,ub]
  have cA6:(Bs (e.take cut.toNat)++ [.int .u8 y])++((Bs e).drop cut.toNat).take (e.length - cut.toNat)=Bs ((e.take cut.toNat++ [y])++e.drop cut.toNat):=by rw [zm,←ub,←ub];rfl
  have fA2:nR s t8 A2 (e.take cut.toNat++e.drop (cut+1).toNat):=by
   refine .inl ?_
   have:=Zf.fr
   rw [cA2] at this
   rw [List.length_append,List.length_drop]
   exact this
  have fA6:nR s t8 A6 ((e.take cut.toNat++ [y])++e.drop cut.toNat):=by
   refine .inl ?_
   have:=o8.fr
   rw [cA6] at this
   rw [List.length_append,List.length_append,List.length_drop]
   exact this
  have VT:bytes (e.set cut.toNat y):=fun x hx=>by
   rcases List.mem_or_eq_of_mem_set hx with h|rfl
   ·exact he x h
   ·exact hu
  have by1:bytes [y]:=fun x hx=>by rw [List.mem_singleton] at hx;subst hx;exact hu
  have hD8:=(oD.lo (b:= ·))
  have bD: ∀c,c∈aA D→s.n≤c∧c<bv:=fun c hc=>by have:=lD c hc;have:=(oD.lo hc).2;omega
  have bA2: ∀c,c∈aA A2→s.n≤c∧c<bv:=fun c hc=>by have:=Zf.lo hc;omega
  have bA6: ∀c,c∈aA A6→s.n≤c∧c<bv:=fun c hc=>by have:=o8.lo hc;omega
  have bw: ∀c,c∈aA w'→s.n≤c∧c<bv:=fun c hc=>by
   exfalso
   have: ∀ {k l},Is k w' l→c∈aA w'→False:=fun {k l} h h'=>by
    unfold Is at h
    generalize l.length=q at h
    generalize l.map (V.int k)=q' at h
    cases h<;>cases h'
   exact this vG hc
  have ok4: ∀i:Nat,i<4→ ∃z a,([D,A2,A6,w']:List V).getD i .bad=z∧([e.set cut.toNat y,e.take cut.toNat++e.drop (cut+1).toNat,(e.take cut.toNat++ [y])++e.drop cut.toNat,c.take (if (30:Int)<(c.length:Int) then 30 else (c.length:Int)).toNat]:List (List Int)).getD i []=a∧nR s t9 z a∧bytes a∧a.length≤40000∧ ∀c,c∈aA z→s.n≤c∧c<bv:=fun i hi=>by
   have:i=0∨i=1∨i=2∨i=3:=by omega
   rcases this with rfl|rfl|rfl|rfl
   ·exact ⟨_,_,rfl,rfl,.inl (oD.kp k9 (fun _ _=>by simp)).fr,VT,by show (e.set cut.toNat y).length≤_;rw [List.length_set];omega,bD⟩
   ·exact ⟨_,_,rfl,rfl,fA2.kp k9 (fun _ _=>by simp),fc (cP _ he) (bP _ he),by show (e.take cut.toNat++e.drop (cut+1).toNat).length≤_;rw [List.length_append,List.length_drop];omega,bA2⟩
   ·exact ⟨_,_,rfl,rfl,fA6.kp k9 (fun _ _=>by simp),fc (fc (cP _ he) by1) (bP _ he),by show ((e.take cut.toNat++ [y])++e.drop cut.toNat).length≤_;rw [List.length_append,List.length_append,List.length_drop];simp only [List.length_cons,List.length_nil];omega,bA6⟩
   ·exact ⟨_,_,rfl,rfl,.inr vG,cP _ DK,by show (c.take (if (30:Int)<(c.length:Int) then 30 else (c.length:Int)).toNat).length≤_;rw [List.length_take];split<;>omega,bw⟩
  have xl:([D,A2,A6,w']:List V).length=4:=rfl
  generalize ([D,A2,A6,w']:List V)=xs at*
  generalize ([e.set cut.toNat y,e.take cut.toNat++e.drop (cut+1).toNat,(e.take cut.toNat++ [y])++e.drop cut.toNat,c.take (if (30:Int)<(c.length:Int) then 30 else (c.length:Int)).toNat]:List (List Int))=bb at*
  simp (disch:=omega) only [jU]
  refine aP (bW s _) (fun k vs t=> ∃i:Nat,vs= [.int .i64 i,.sl bv 0 4 4 1]∧Loc s t∧Kp s t []∧dX s t bv xs 70 bL∧(∀i,i<4→nR s t (xs.getD i .bad) (bb.getD i []))∧i+k=4) ?_ _ 4 _ _
   ⟨0,rfl,l9,K9,hV,fun i hi=>by obtain ⟨z,a,rfl,rfl,h,_⟩:=ok4 i hi;exact h,rfl⟩ (by omega)
  rintro ih k _ t' ⟨i,rfl,hlt,hKt,hB,gh,DX⟩ eZ
  have hlen:aN (.sl bv 0 4 4 1)=some (.int .i64 4):=rfl
  by_cases hi:i<4
  ·obtain ⟨z,a,hz,ha,_,rr,hal,Nc⟩:=ok4 i hi
   have Yz:=gh i hi
   rw [hz,ha] at Yz
   have KW:=ma (b:=bv) (o:=0) (l:=4) (c:=4) (z':=1) (z:=1) .i64 (i:=(i:Int)) (by omega) (by omega)
   rw [Nat.zero_add,Nat.mul_one,Int.toNat_natCast] at KW
   have vF: ∀ {t},dX s t bv xs 70 bL→aM t (.ptr bv i)=some z:=fun {t} h=>by rw [fI h.rd (by omega),hz]
   have FP:bv∉aA z:=fun h=>by have:=Nc _ h;omega
   have ge: ∀ {X:List Nat},(∀c,c∈X→s.n≤c)→ ∀c,c∈X→c∈([]:List Nat)∨s.n≤c:=fun h c hc=> .inr (h c hc)
   obtain ⟨q1,nT,u1,m1,ll1,kk1,nn1,rr1⟩:=CU (cf:=cx) (f:=25) (st:=true) hlt Yz (fun x' h=>Wh h rr hal)
   obtain ⟨d1,e1,Ir,rfl,lX,KF,sF⟩:=nT.parts
   have DH:=fK (h:=(p5 (dP a)).host) (f:=(p5 (dP a)).dU) (t:=(p5 (dP a)).eD) lX KF
   obtain ⟨u2,m2,B2,ll2,Uy,nn2⟩:=cO (cs:= [.int .i64 0,.int .i64 0,.int .i64 0,.ah,.ah]) (l:= [.int .i64 (p5 (dP a)).host,.int .i64 (p5 (dP a)).dU,.int .i64 (p5 (dP a)).eD,d1,e1]) (t:=55) (z:=5) ll1 rfl rfl (ew DH)
   have hB1:=hB.kp kk1 FP
   have hB2:=hB1.kp Uy (by simp)
   have Ci:nR s u2 z a:=(Yz.mono (by omega) (fun c cs hr _ _=>rr1 c cs hr)).kp Uy (fun _ _=>by simp)
   obtain ⟨q2,HE,u3,m3,ll3,Zc,nn3,rr3⟩:=CU (cf:=cx) (f:=27) (st:=true) ll2 Ci (fun x' h=>c27 h rr hal)
   obtain ⟨d2,e2,JW,rfl,sE,T5,HF⟩:=HE.parts
   have PO:=fK (h:=(p5 (dP a)).host) (f:=(p5 (dP a)).dU) (t:=(p5 (dP a)).eD) sE T5
   obtain ⟨u4,m4,B4,Zd,Uz,nn4⟩:=cO (cs:= [.int .i64 0,.int .i64 0,.int .i64 0,.ah,.ah]) (l:= [.int .i64 (p5 (dP a)).host,.int .i64 (p5 (dP a)).dU,.int .i64 (p5 (dP a)).eD,d2,e2]) (t:=37) (z:=5) ll3 rfl rfl (ew PO)
   have YA: ∀c,c∈aA z→c<t'.n:=fun c hc=>by have:=Nc c hc;have:=hB.hi;omega
   have Xr:u1.n∉aA z:=fun h=>by have:=YA _ h;omega
   have B2':=(B2.kp Zc Xr).kp Uz (by simp)
   have Ay:=LL rr hal
   obtain ⟨q5,QB,m5⟩:=aU (dr:=true) (st:=false) (c17 (p:=p5 (dP a)) ⟨d1,e1,Ir,rfl,lX,KF,sF⟩ Ay.lb) (cU DH) Zd.wm
   have m6:=bO (dr:=true) (st:=false) (c16 (p:=p5 (dP a)) QB ⟨d2,e2,JW,rfl,sE,T5,HF⟩ Ay) (cC QB.az PO) Zd.wm
   simp (disch:=omega) only [jU,st,si,hlen,KW,vF hB,m1]
   rw [m2]
   simp (disch:=omega) only [jU,st,si,KW,vF hB2,m3]
   rw [m4]
   simp (disch:=omega) only [jU,st,si,gS,ne_eq,not_true_eq_false,decide_false,B2'.r5,m5,B4.r5,m6,ea,Bool.not_true,br]
   refine eZ (k - 1) _ _ (by omega) ⟨i+1,rfl,Zd,(((hKt.trans kk1 (ge fun c hc=>(Nc c hc).1)).trans Uy (ge fun c hc=>by cases hc)).trans Zc (ge fun c hc=>(Nc c hc).1)).trans Uz (ge fun c hc=>by cases hc),(hB2.kp Zc FP).kp Uz (by simp),fun j hj=> ?_,by omega⟩
   exact ((((gh j hj).mono (by omega) (fun c cs hr _ _=>rr1 c cs hr)).kp Uy (fun _ _=>by simp)).mono (by omega) (fun c cs hr _ _=>rr3 c cs hr)).kp Uz (fun _ _=>by simp)
  ·have hi4:i=4:=by omega
   subst hi4
   have f21:=call21 (dr:=false) (st:=false) (hG.kp h3 hKt) hlt.wm
   simp (disch:=omega) only [jU,st,si,hlen,f21]
   exact ⟨_,rfl,aO rfl (by omega) hlt.fx⟩
theorem Fr.aN {s₀ s:S} {x:V} {l:Nat} {cs:List V} (h:Fr s₀ s x l cs):X.aN x=some (.int .i64 l):=by
 rcases h with ⟨rfl,h,_⟩|⟨b,rfl,_⟩<;>(first|(rw [h];rfl)|rfl)
theorem t4b {s t:S} {E w:V} {c:List Int} {n m:Int} {F:Nat} {p:Pm} {d e:V} {cs:List V} (hF:F=6) (hs:s.wm=s.n) (hl:Loc s t) (hG:G3 s) (h3:3≤s.n) (hK:Kp s t []) (hp:p.sm) (hf:p.formed=true)
  (hd:Is .i64 d p.parts) (he:Fs 16 e p.boxes.length cs) (hr:iQ p.boxes cs) (hB:dX s t s.n [.int .i64 p.host,.int .i64 p.dU,.int .i64 p.eD,d,e] 37 false) (hE:Fr s t E (dz p).length (Bs (dz p))) (hnE:s.n∉aA E)
  (hm:fk m) (hw:Is .u8 w c) (DK:bytes c):bW s (fun r=>r= .bool true) (VK cx F s [.int .i64 m,.ptr s.n 0,.int .i64 n,E,w] t):=by
 unfold VK
 have Ay:=hp.ok
 have hL:=hp.ti.enc
 have hLp:=rf p
 have xO:=rb Ay
 have zX:=hE.aN
 have ge: ∀ {X:List Nat},(∀c,c∈X→s.n≤c)→ ∀c,c∈X→c∈([]:List Nat)∨s.n≤c:=fun h c hc=> .inr (h c hc)
 obtain ⟨be,PS,Xl,Xm,PT,Kt⟩:=hE.resolve_left (fun h=>by have:=h.2.1;omega)
 have nE: ∀c,c∈aA E→c=be:=fun c hc=>by rw [PS] at hc;simpa [aA] using hc
 have WQ:nR s t E (dz p):= .inl hE
 obtain ⟨E',bs1,u1,Xb,WJ,uA,PQ⟩:=WQ.args [.int .i64 (dz p).length] rfl
 obtain ⟨B1,t1,f1,o1,l1,k1,g1,r1⟩:=tf (dr:=false) (st:=true) hl Xb uA (fun _ h=>by cases h) (Pd WJ (m:=(dz p).length) (by rw [List.length_take];omega) (by omega)) (cY _)
 rw [Int.toNat_natCast,List.take_length] at o1
 obtain ⟨B2,t2,f2,o2,l2,k2,g2⟩:=gO (dr:=false) (st:=true) l1 (args:= [w,.int .i64 30]) (by rw [List.all_cons,Fs.cm hw];rfl) (Pd hw (m:=30) (by rw [List.length_take];omega) (by omega)) (cY _)
 obtain ⟨B3,t3,f3,o3,l3,k3,g3⟩:=vN (te:=iE) l2 (o1.kp k2 (fun _ _=>by simp)) o2 (dZ _ _) rfl (by decide) (by rw [dO,List.length_take];omega)
 have LH:nR s t3 B3 (dz p++c.take 30):=by
  refine .inl ?_
  have:=o3.fr
  rw [ub,←List.length_append] at this
  exact this
 obtain ⟨q1,nT,t4,f4,l4,k4,n4,r4⟩:=CU (cf:=cx) (f:=25) (st:=true) l3 LH (fun x' h=>Wh h (fc xO (cP _ DK)) (by rw [List.length_append,List.length_take];omega))
 rw [ye hf Ay] at nT
 obtain ⟨_,rfl,d1,e1,Ir,rfl,lX,KF,sF⟩:=nT
 have DH:=fK (h:=p.host) (f:=p.dU) (t:=p.eD) lX KF
 obtain ⟨t5,f5,c5,l5,k5,n5⟩:=cO (cs:= [.int .i64 0,.int .i64 0,.int .i64 0,.ah,.ah]) (l:= [.int .i64 p.host,.int .i64 p.dU,.int .i64 p.eD,d1,e1]) (t:=55) (z:=5) l4 rfl rfl (ew DH)
 have Qj:=k1.1
 have hk2:=k2.1
 have hk3:=k3.1
 have hk5:=k5.1
 have PA: ∀c,c∈aA B3→t.n≤c:=fun c hc=>(g3 c hc).elim (g1 c) (fun h=>by omega)
 have TV:Fr s t5 E (dz p).length (Bs (dz p)):=((((hE.mono k1.1 (fun c cs hr hc _=>r1 c cs hr hc)).kp k2 (fun _ _=>by simp)).kp k3 (fun c hc h=>by have:=nE c hc;have:=g1 c h;omega)).mono (by omega) (fun c cs hr _ _=>r4 c cs hr)).kp k5 (fun _ _=>by simp)
 have hB5:=((((hB.kp k1 (fun h=>hnE (PQ _ h))).kp k2 (by simp)).kp k3 (fun h=>by have:=g1 _ h;have:=hB.hi;omega)).kp k4 (fun h=>by have:=PA _ h;have:=hB.hi;omega)).kp k5 (by simp)
 have T2:=c9 m (dz p).length hm.1 hm.2 (by omega) (by omega)
 have f6:=bO (dr:=false) (st:=true) T2 (cC rfl rfl) l5.wm
 have X9:=ec (n:=m) (m:=(dz p).length) (by omega)
 obtain ⟨q,hq⟩:=Int.eq_ofNat_of_zero_le X9.1
 rw [hq] at f6 X9
 have uI:=Mh (b:=be) (l:=(dz p).length) (c:=(dz p).length) (z:=1) (n:=q) (by omega)
 obtain ⟨Io,Bn,nT,HE,QA,M5⟩:=TV.resolve_left (fun h=>by have:=h.2.1;omega)
 have Xk:Io=be:=by rw [PS] at Bn;simp only [V.sl.injEq] at Bn;exact Bn.1.symm
 subst Xk
 obtain ⟨eE,ZV,ET,hgE⟩:=QA
 have hfz:Fz (X.aw t5) (.sl Io 0 q (dz p).length 1) (.iL (Bs ((dz p).take q)) q) (bif ET then [Io] else []):=
  .sl Io 0 q (dz p).length 1 (Bs (dz p)) _ eE ZV ET hgE (by omega) (by rw [M5];omega) (by rw [List.drop_zero,Nat.mul_one];exact List.map_take.symm) (aS _ _)
 have WU:Is .u8 (.iL (Bs ((dz p).take q)) q) ((dz p).take q):=by
  have hlt:((dz p).take q).length=q:=by rw [List.length_take];omega
  have:=Is.mk .u8 ((dz p).take q)
  rw [hlt] at this
  exact this
 obtain ⟨q2,Qz,t6,f7,l6,k6,n6,r6⟩:=lM (dr:=false) (st:=true) (bs:=(bif ET then [Io] else [])++ []) l5 (bK.cons _ _ _ _ _ _ _ _ (.one _ _ _ hfz) (.nil _)) (fun b hb=>by
  rw [List.append_nil] at hb
  cases ET<;>simp at hb
  omega) (fun _ h=>by cases h) (Wh WU (cP _ xO) (by rw [List.length_take];omega))
 rw [JX hf Ay xO (by omega) (by omega)] at Qz
 obtain rfl:q2=_:=Qz
 have Za:Kp t5 t6 [Io]:=k6.mono (fun c hc=>by
  rw [List.append_nil] at hc
  cases ET<;>simp at hc
  simp [hc])
 obtain ⟨t7,f8,c7,l7,k7,n7⟩:=cO (cs:= [.int .i64 0,.int .i64 0,.int .i64 0,.ah,.ah]) (l:= [.int .i64 0,.int .i64 0,.int .i64 0,.ah,.ah]) (t:=55) (z:=5) l6 rfl rfl rfl
 have WO:Fr s t7 E (dz p).length (Bs (dz p)):=(TV.mono (by omega) (fun c cs hr _ _=>r6 c cs hr)).kp k7 (fun _ _=>by simp)
 have hnb:s.n≠Io:=fun h=>hnE (by rw [PS,h];simp [aA])
 have hB7:=(hB5.kp Za (by simpa using hnb)).kp k7 (by simp)
 have c5':=(c5.kp Za (by simp;omega)).kp k7 (by simp)
 obtain ⟨q5,QB,f9⟩:=dM (c17 (p:=p) ⟨d1,e1,Ir,rfl,lX,KF,sF⟩ Ay.lb) (cU DH) l7.wm
 have f10:=jz (c16 (p:=p) QB ⟨d,e,cs,rfl,hd,he,hr⟩ Ay) (cC QB.az (fK hd he)) l7.wm
 have K7:Kp s t7 []:=((((((hK.trans k1 (ge uA)).trans k2 (ge fun c hc=>by cases hc)).trans k3 (ge fun c hc=>by have:=g1 c hc;have:=hl.n;omega)).trans k4 (ge fun c hc=>by have:=PA c hc;have:=hl.n;omega)).trans k5 (ge fun c hc=>by cases hc)).trans Za (ge fun c hc=>by simp at hc;omega)).trans k7 (ge fun c hc=>by cases hc)
 rw [←PS] at uI
 have f7':=f7
 simp (disch:=omega) only [jU,st,si,zX,f1,f2,f3,f4]
 rw [f5]
 simp (disch:=omega) only [jU,st,si,f6,uI,f7]
 rw [f8]
 simp (disch:=omega) only [jU,st,si,sf,zX,ne_eq,not_true_eq_false,decide_false,c5'.r5,f9,hB7.r5,f10,ea,Bool.not_true]
 refine wU (J0 (by repeat' first|exact trivial|refine Qs.cz (fun _ h=>by cases h) ?_)) ?_
 simp (disch:=omega) only [jU,st]
 exact t4c hF hs l7 hG h3 K7 WO xO hL (by omega) X9.2 hw DK
theorem c4 {v w:V} {l c:List Int} {n m:Int} (hv:Is .i64 v l) (hlr: ∀x,x∈l→fk x) (hn:fk n) (hm:fk m) (hw:Is .u8 w c) (DK:bytes c) {s:S} (hs:s.wm=s.n) (hG:G3 s) (h3:3≤s.n):
  ∃r,r= .bool true∧cx 4 [v,.int .i64 n,.int .i64 m,w] s=some (r,s):=
 (E4 (aE (by decide))).fD 6 (P:=fun r=>r= .bool true) (by
  show bW s _ (F4 cx _ v (.int .i64 n) (.int .i64 m) w s)
  rw [VC]
  unfold T4a
  generalize hF:6=F
  have l0:=Loc.refl hs
  obtain ⟨r1,⟨p,hp,RC,Zs⟩,e1⟩:=aU (dr:=false) (st:=true) (c7 hv hlr) (cU hv.az) l0.wm
  have Qy:=hp
  obtain ⟨pd,pe,pcs,rfl,wM,La,hpr⟩:=hp
  obtain ⟨s1,e2,b1,l1,k1,n1⟩:=cO (cs:= [.int .i64 0,.int .i64 0,.int .i64 0,.ah,.ah]) (l:= [.int .i64 p.host,.int .i64 p.dU,.int .i64 p.eD,pd,pe]) (t:=37) (z:=5) l0 rfl rfl (ew (fK wM La))
  obtain ⟨r2,⟨p',hp',Zt⟩,e3⟩:=aU (dr:=false) (st:=true) (c8 Qy RC hn hm) (iT (a:= [_]) (b:= [_,_]) (cU Qy.az) (cC rfl rfl)) l1.wm
  have K6:=hp'
  obtain ⟨Zy,Zz,qcs,rfl,Uh,hqe,hqr⟩:=hp'
  obtain ⟨s2,e4,b2,l2,k2,n2⟩:=cO (cs:= [.int .i64 0,.int .i64 0,.int .i64 0,.ah,.ah]) (l:= [.int .i64 p'.host,.int .i64 p'.dU,.int .i64 p'.eD,Zy,Zz]) (t:=37) (z:=5) l1 rfl rfl (ew (fK Uh hqe))
  have Ty:=b1.kp k2 (by simp)
  have Ay:=RC.ok
  have plb:=RC.lb
  have RA:=Zt.ok
  have HY:=RC.ti.enc
  have abT:=Zt.enc
  have Zr:=rb Ay
  obtain ⟨r3,Ui,e5⟩:=aU (dr:=false) (st:=false) (c12 Qy (by omega)) (cU Qy.az) l2.wm
  have PX:=Wf Ui Ay (by omega)
  rw [if_pos Zs] at PX
  obtain ⟨E,s3,e6,o3,l3,k3,g3⟩:=gO (dr:=false) (st:=false) l2 (by simp [show cm r3=true from by obtain ⟨_,_,_,rfl,h1,h2,_⟩:=Ui;exact fK h1 h2]) PX (cY _)
  have OJ:=Ty.kp k3 (by simp)
  have b2b:=b2.kp k3 (by simp)
  have yB:=b1.hi
  have Hz:=b2.hi
  have hLp:=rf p
  have Yy:decide (((dz p).length:Int)=0)=false:=decide_eq_false (by omega)
  have WS: ∀c,c∈aA E→s2.n≤c∧c<s3.n:=fun c hc=>⟨g3 c hc,(o3.lo hc).2⟩
  have PY:=c24 Qy Ay (by omega)
  rw [if_pos Zs] at PY
  obtain ⟨E2,s4,i4,e7,o4,l4,k4,g4⟩:=jw l3 (args:= [.agg [.int .i64 p.host,.int .i64 p.dU,.int .i64 p.eD,pd,pe]]) (by simp [show cm (.agg [.int .i64 p.host,.int .i64 p.dU,.int .i64 p.eD,pd,pe])=true from fK wM La]) PY (cY _)
  have VP:=b2b.kp k4 (by simp)
  have VM:=OJ.kp k4 (by simp)
  obtain ⟨_,rfl,s5,z5,e8,l5,k5,n5,r5⟩:=CW (cf:=cx) (f:=23) (P:=fun r=>r= .bool true) l4 (o3.kp k4 (fun _ _=>by simp)).TS o4.TS (fun x' y' h1 h2=>by
   have:=Wg h1 h2 (by omega)
   rw [decide_eq_true rfl] at this
   exact I7 this)
  have nE2: ∀c,c<s2.n→c∉aA E++aA E2:=fun c hc h=>by
   rcases List.mem_append.1 h with h|h
   ·have:=WS c h;omega
   ·have:=g4 c h;have:=k3.1;omega
  have TB:=VP.kp k5 (nE2 _ (by omega))
  have Tz:=VM.kp k5 (nE2 _ (by omega))
  obtain ⟨r6,hr6,e9⟩:=dM (c12 K6 (by have:=Zt.lb;omega)) (cU K6.az) l5.wm
  obtain ⟨E3,s6,i6,Pj,o6,l6,k6,g6⟩:=jw l5 (args:= [r6]) (by simp [show cm r6=true from by obtain ⟨_,_,_,rfl,h1,h2,_⟩:=hr6;exact fK h1 h2]) (Wf hr6 RA (by omega)) (cY _)
  have b2e:=TB.kp k6 (by simp)
  obtain ⟨E4,s7,i7,TN,o7,l7,k7,g7⟩:=jw l6 (args:= [.agg [.int .i64 p'.host,.int .i64 p'.dU,.int .i64 p'.eD,Zy,Zz]]) (by simp [show cm (.agg [.int .i64 p'.host,.int .i64 p'.dU,.int .i64 p'.eD,Zy,Zz])=true from fK Uh hqe]) (c24 K6 RA (by omega)) (cY _)
  obtain ⟨_,rfl,s8,z8,Wt,l8,k8,n8,r8⟩:=CW (cf:=cx) (f:=23) (P:=fun r=>r= .bool true) l7 (o6.kp k7 (fun _ _=>by simp)).TS o7.TS (fun x' y' h1 h2=>by
   have:=Wg h1 h2 (by split<;>(try rw [List.length_nil])<;>omega)
   rw [decide_eq_true rfl] at this
   exact I7 this)
  simp (disch:=omega) only [jU,st,e1]
  rw [e2]
  simp (disch:=omega) only [jU,st,b1.r5,e3]
  rw [e4]
  simp (disch:=omega) only [jU,st,si,sf,Ty.r5,e5,e6,o3.len,Yy,OJ.r5,e7,e8,ea,Bool.not_true,TB.r5,e9,Pj,b2e.r5,TN,Wt]
  refine wU (J0 (by repeat' first|exact trivial|refine Qs.cz (fun _ h=>by cases h) ?_)) ?_
  simp (disch:=omega) only [jU,st]
  have TA:=(Tz.kp k6 (by simp)).kp k7 (by simp)
  have nE4: ∀c,c<s5.n→c∉aA E3++aA E4:=fun c hc h=>by
   rcases List.mem_append.1 h with h|h
   ·have:=g6 c h;omega
   ·have:=g7 c h;have:=k6.1;omega
  have VN:=TA.kp k8 (nE4 _ (by have:=Tz.hi;omega))
  have hk6:=k6.1
  have hk7:=k7.1
  have hFE:=(((((o3.kp k4 (fun _ _=>by simp)).fr.mono (by omega) (fun c cs hr _ _=>r5 c cs hr)).kp k6 (fun _ _=>by simp)).kp k7 (fun _ _=>by simp)).mono (by omega) (fun c cs hr _ _=>r8 c cs hr))
  have ge: ∀ {X:List Nat},(∀c,c∈X→s.n≤c)→ ∀c,c∈X→c∈([]:List Nat)∨s.n≤c:=fun h c hc=> .inr (h c hc)
  have K8:Kp s s8 []:=(((((((k1.trans k2 (ge fun c hc=>by cases hc)).trans k3 (ge fun c hc=>by cases hc)).trans k4 (ge fun c hc=>by cases hc)).trans k5 (ge fun c hc=>by
   rcases List.mem_append.1 hc with h|h
   ·have:=WS c h;omega
   ·have:=g4 c h;have:=k3.1;omega)).trans k6 (ge fun c hc=>by cases hc)).trans k7 (ge fun c hc=>by cases hc)).trans k8 (ge fun c hc=>by
   have:=k5.1
   have:=k4.1
   have:=k3.1
   rcases List.mem_append.1 hc with h|h
   ·have:=g6 c h;omega
   ·have:=g7 c h;omega))
  exact t4b hF.symm hs l8 hG h3 K8 RC Zs wM La hpr VN hFE (fun h=>by have:=WS _ h;omega) hm hw DK) (by omega)
end Go.Vm.X
end
noncomputable section
namespace Go.Vm.X
open Go Go.Vm Go.Proofs Go.Proofs.bt
def s0:S:= { h:=((Tr.leaf.set 0 g0).set 1 g1).set 2 g2,n:=3,wm:=3 }
def qH (a:bB):Bool:=
 match a with
 |some (.bool true,s)=>Nat.ble 3 s.wm
 |_=>false
theorem Lx:qH (Ws Fu 300 60 21 [] s0)=true:=by kernel_rfl
theorem yG {a:bB} (h:qH a=true): ∃s,a=some (.bool true,s)∧3≤s.wm:=by
 unfold qH at h
 split at h
 ·exact ⟨_,rfl,Nat.le_of_ble_eq_true h⟩
 ·cases h
theorem Ez {a:bB} (h:qH a=true) (hr: ∀r,a=some r→s0.wm≤s0.n→Cl Nh funcs types 21 [] s0 fun v s'=>(v,s')=r∧s0.n≤s'.n): ∃n s₁,go kn Nh funcs types n (.call 21 [] s0)=some (.val (.bool true) s₁)∧s0.n≤s₁.wm:=by
 obtain ⟨s,h1,h4⟩:=yG h
 obtain ⟨n,r,h2,h3⟩:=hr _ h1 (Nat.le_refl _)
 split at h3
 ·obtain ⟨h3,_⟩:=h3
  cases h3
  exact ⟨n,_,h2,h4⟩
 ·exact h3.elim
theorem BG: ∃n s₁,go kn Nh funcs types n (.call 21 [] s0)=some (.val (.bool true) s₁)∧s0.n≤s₁.wm:=
 Ez Lx fun r e hw=>zw (O:=Nh) (lB.Wv (Mp fun _=>rfl)) 300 60 21 [] s0 r e hw
def flat:V→Bool
 | .fn _ [] []=>true
 | .int _ _=>true
 | .bool _=>true
 |_=>false
def tm:V→Bool
 | .agg cs=>cs.all flat
 |v=>flat v
theorem R.flat {Z:Nat→Prop} {h:Tr eI} {κ κ':cd} {v:V} {w:Value} (hr:R Z h κ v w) (hf:flat v=true):R Z h κ' v w:=by
 cases hr<;>simp only [X.flat] at hf<;>try (cases hf;done)
 ·exact .bool _ _
 ·exact .int _ _ _
 ·rename_i f a b a' b' ha hb
  cases a with
  |cons _ _=>cases hf
  |nil=>cases b with
   |cons _ _=>cases hf
   |nil=>cases ha;cases hb;exact .fn _ _ _ _ _ _ (.nil _) (.nil _)
theorem Rs.flat {Z:Nat→Prop} {h:Tr eI} {κ κ':cd} : ∀ {l:List V} {l':List Value},Rs Z h κ l l'→l.all X.flat=true→Rs Z h κ' l l'
 | [],_,hr,_=>by cases hr;exact .nil _
 |v::l,_,hr,hf=>by
  cases hr with
  |cons _ _ w _ l' hv hl=>
   simp only [List.all_cons,Bool.and_eq_true] at hf
   exact .cons _ _ _ _ _ (hv.flat hf.1) (Rs.flat hl hf.2)
theorem R.tm {Z:Nat→Prop} {h:Tr eI} {κ κ':cd} {v:V} {w:Value} (hr:R Z h κ v w) (hf:tm v=true):R Z h κ' v w:=by
 cases v with
 |agg cs=>cases hr with|agg _ _ l' hl=>exact .agg _ _ _ (hl.flat hf)
 |_=>exact hr.flat hf
theorem Ps.flat {Z:Nat→Prop} {h:Tr eI} {κ κ':cd} : ∀ {es:List (V×V)} {es':List (Value×Value)},Ps Z h κ es es'→es.all (fun p=>tm p.1 && tm p.2)=true→Ps Z h κ' es es'
 | [], [],_,_=>trivial
 |(_,_)::_,(_,_)::_,⟨a,b,c⟩,hf=>by
  simp only [List.all_cons,Bool.and_eq_true] at hf
  exact ⟨a.tm hf.1.1,b.tm hf.1.2,Ps.flat c hf.2⟩
 | [],_::_,h,_=>h.elim
 |(_,_)::_, [],h,_=>h.elim
theorem Ie (hG:Cu 2 funcs):Cy 2 funcs types OL:=by
 intro f g hf args v s hv κ Z args' s' hw m ha hw'
 have XE:f=21∧g=rG:=by
  unfold OL at hf
  split at hf
  ·cases hf;exact ⟨rfl,rfl⟩
  ·cases hf
 obtain ⟨rfl,rfl⟩:=XE
 unfold rG at hv
 split at hv
 ·rename_i hc
  obtain ⟨rfl,h0,h1,h2⟩:=hc
  cases hv
  cases ha
  obtain ⟨n,s₁,hrun,wP⟩:=BG
  have k0:κ 0=some 0:=m.gl 0 (by omega)
  have k1:κ 1=some 1:=m.gl 1 (by omega)
  obtain ⟨o0',e0,vs0,Zk,rfl,r0,_⟩:=m.obj 0 g0 0 h0 k0
  obtain ⟨FW,e1,vs1,Zl,rfl,r1,_⟩:=m.obj 1 g1 1 h1 k1
  obtain ⟨c,k2,r1'⟩: ∃c,κ 2=some c∧ ∀κ':cd,κ' 2=some c→Rs Z s'.h κ' [.map 2] vs1:=by
   cases r1 with
   |cons _ _ w _ l' hv hl=>
    cases hl
    cases hv with
    |map _ _ c hk=>exact ⟨c,hk,fun κ' hk'=> .cons _ _ _ _ _ (.map _ _ _ hk') (.nil _)⟩
  obtain ⟨Ni,e2,es2,Zm,rfl,r2,_⟩:=m.obj 2 g2 c h2 k2
  let κ₀:cd:=fun b=>if b<3 then κ b else none
  have hκ: ∀b c,κ₀ b=some c→b<3∧κ b=some c:=fun b c h=>by
   simp only [κ₀] at h
   split at h
   ·exact ⟨by assumption,h⟩
   ·cases h
  have s00:s0.h.get 0=some g0:=by simp [s0,Tr.gv]
  have s01:s0.h.get 1=some g1:=by simp [s0,Tr.gv]
  have s02:s0.h.get 2=some g2:=by simp [s0,Tr.gv]
  have Pv: ∀b o,b<3→s0.h.get b=some o→s.h.get b=some o∧uL o=false:=fun b o hb ho=>by
   have:b=0∨b=1∨b=2:=by omega
   rcases this with rfl|rfl|rfl
   ·rw [s00] at ho;cases ho;exact ⟨h0,rfl⟩
   ·rw [s01] at ho;cases ho;exact ⟨h1,rfl⟩
   ·rw [s02] at ho;cases ho;exact ⟨h2,rfl⟩
  have m0:Sm 2 κ₀ Z s0 s':=by
   refine ⟨fun b o d hb hk=> ?_,fun b d hk=> ?_,fun b b' d hk hk'=>m.inj b b' d (hκ b d hk).2 (hκ b' d hk').2,fun b o d hb hl hk=> ?_,m.FH,⟨Nat.le_refl _,m.wm.2⟩,fun g hg=> ?_,fun b cs e bL d hb hk=> ?_⟩
   ·obtain ⟨z7,Bq⟩:=hκ b d hk
    have:b=0∨b=1∨b=2:=by omega
    rcases this with rfl|rfl|rfl
    ·rw [k0] at Bq;cases Bq
     rw [s00] at hb;cases hb
     exact ⟨_,e0,vs0,Zk,rfl,r0.flat rfl,fun h=>by cases h⟩
    ·rw [k1] at Bq;cases Bq
     rw [s01] at hb;cases hb
     exact ⟨_,e1,vs1,Zl,rfl,r1' κ₀ (by simp [κ₀,k2]),fun h=>by cases h⟩
    ·rw [k2] at Bq;cases Bq
     rw [s02] at hb;cases hb
     exact ⟨_,e2,es2,Zm,rfl,r2.flat rfl,fun h=>by cases h⟩
   ·obtain ⟨z7,Bq⟩:=hκ b d hk
    exact ⟨z7,(m.lt b d Bq).2⟩
   ·obtain ⟨z7,_⟩:=hκ b d hk
    rw [(Pv b o z7 hb).2] at hl;cases hl
   ·simp only [κ₀,if_pos (show g<3 by omega)];exact m.gl g hg
   ·obtain ⟨z7,Bq⟩:=hκ b d hk
    exact m.fz b cs e bL d (Pv b _ z7 hb).1 Bq
  obtain ⟨w,bF,j1,j2,j3,κ₁,Z₁,j4⟩:=yJ hG hrun wP (Nat.le_refl _) m m0 (.nil _) hw'
  cases j4
  exact ⟨n,κ,Z,_,bF,j1,j2,j3,.bool _ _⟩
 ·cases hv
end Go.Vm.X
#print axioms Go.Vm.X.Ie
end
noncomputable section
namespace Go.Vm
open Go Go.Proofs Go.Proofs.YtalmddmghdinkaaGreatDoor Go.ChangeShapes Go.WideShapes Go.WideElems Go.RowKit
set_option maxRecDepth 100000
def fv (n:Nat):Value:= .func (.func n) #[] #[]
theorem EX {α β:Type} {f:α→β} {x m:List β} (h:x.Perm m): ∀ {l:List α},l.map f=x→ ∃l':List α,l'.Perm l∧l'.map f=m:=by
 induction h with
 |nil=>intro l hl;exact ⟨l,.refl _,hl⟩
 |cons b _ ih=>
  intro l hl
  cases l with
  |nil=>cases hl
  |cons a l=>
   simp only [List.map_cons,List.cons.injEq] at hl
   obtain ⟨l',h1,h2⟩:=ih hl.2
   exact ⟨a::l',h1.cons a,by simp [hl.1,h2]⟩
 |swap b c l₀=>
  intro l hl
  match l,hl with
  |a::a'::l,hl=>
   simp only [List.map_cons,List.cons.injEq] at hl
   exact ⟨a'::a::l,.swap _ _ _,by simp [hl.1,hl.2.1,hl.2.2]⟩
 |trans _ _ ih1 ih2=>
  intro l hl
  obtain ⟨l1,h1,h2⟩:=ih1 hl
  obtain ⟨l2,h3,h4⟩:=ih2 h2
  exact ⟨l2,h3.trans h1,h4⟩
theorem tW {H:Type} : ∀l:List (Lit×DataW H),(l.foldr DataW.insert []).Perm l
 | []=> .refl _
 |x::l=>(insert_perm x _).trans ((tW l).cons x)
theorem gA:Tryz.prog.globalNamed "gantry/broad.axes" =some 0:=by kernel_rfl
theorem gM:Tryz.prog.globalNamed "gantry/rows.makers" =some 1:=by kernel_rfl
theorem tA:(Tryz.prog.globals[0]?).map (·.type)=some 204:=by kernel_rfl
theorem tMk:(Tryz.prog.globals[1]?).map (·.type)=some 318:=by kernel_rfl
theorem pN {P:Program} {w:World} {base:Nat} {sp:Nat→Bool} {fuel t g0 g1:Nat} {f0 f1:Field} {p0 q0 p1 q1:Array TypeId} {v0 v1:Bool} {b0 b1:UInt8} {r0 r1:List UInt8} {cs:List Value} {q:List MemPlace}
  (ht:P.underlying t=some (.struct #[f0,f1])) (o0:f0.offset=0) (o1:f1.offset=1) (c0:P.cellsOf f0.type=1) (c1:P.cellsOf f1.type=1) (ct:P.cellsOf t=2)
  (u0:P.underlying f0.type=some (.func p0 q0 v0)) (u1:P.underlying f1.type=some (.func p1 q1 v1))
  (n0:((List.range P.funcs.size).filter fun f=>(P.funcs[f]?).any (·.name.toUTF8.data.toList == b0::r0))= [g0]) (n1:((List.range P.funcs.size).filter fun f=>(P.funcs[f]?).any (·.name.toUTF8.data.toList == b1::r1))= [g1])
  (h:DataW.trod (funcToken P) P w base sp true fuel t cs=some (.agg [.held (b0::r0),.held (b1::r1)],q)):cs= [fv g0,fv g1]:=by
 obtain ⟨xs,m,_,hx,hl,_,hel⟩:=DataW.trod_struct ht h
 rw [ct] at hl
 match cs,hl with
 | [a,b],_=>
  have h0:=hel 0 f0 rfl
  have h1:=hel 1 f1 rfl
  rw [o0,c0] at h0
  rw [o1,c1] at h1
  simp only [Prod.mk.injEq,DataW.agg.injEq] at hx
  match xs,hx,h0,h1 with
  | [x0,x1],hx,h0,h1=>
   simp only [List.map_cons,List.map_nil,List.cons.injEq,and_true] at hx
   obtain ⟨y0,z0⟩:=x0
   obtain ⟨y1,z1⟩:=x1
   simp only at hx
   obtain ⟨⟨rfl,rfl⟩,_⟩:=hx
   rw [func_of_trod u0 n0 (show DataW.trod _ _ _ _ _ _ _ _ [a]=_ from h0),func_of_trod u1 n1 (show DataW.trod _ _ _ _ _ _ _ _ [b]=_ from h1)]
   rfl
noncomputable abbrev sQ (b:List UInt8):List Nat:=(List.range Tryz.prog.funcs.size).filter fun f=>(Tryz.prog.funcs[f]?).any (·.name.toUTF8.data.toList == b)
theorem nms: [[103,97,110,116,114,121,47,98,114,111,97,100,46,97,120,101,115,36,49], [103,97,110,116,114,121,47,98,114,111,97,100,46,97,120,101,115,36,50], [103,97,110,116,114,121,47,98,114,111,97,100,46,97,120,101,115,36,51], [103,97,110,116,114,121,47,98,114,111,97,100,46,97,120,101,115,36,52], [103,97,110,116,114,121,47,114,111,119,115,46,116,111,117,99,104], [103,97,110,116,114,121,47,114,111,119,115,46,112,97,105,114,115], [103,97,110,116,114,121,47,114,111,119,115,46,112,117,108,108], [103,97,110,116,114,121,47,114,111,119,115,46,114,111,112,101,115], [103,97,110,116,114,121,47,114,111,119,115,46,115,116,111,112], [103,97,110,116,114,121,47,114,111,119,115,46,108,105,109,105,116,115]].map sQ= [[449], [450], [451], [452], [453], [228], [454], [455], [456], [457]]:=by kernel_rfl
theorem FV:sQ [103,97,110,116,114,121,47,98,114,111,97,100,46,97,120,101,115,36,49]= [449]∧sQ [103,97,110,116,114,121,47,98,114,111,97,100,46,97,120,101,115,36,50]= [450]∧sQ [103,97,110,116,114,121,47,98,114,111,97,100,46,97,120,101,115,36,51]= [451]∧sQ [103,97,110,116,114,121,47,98,114,111,97,100,46,97,120,101,115,36,52]= [452]∧sQ [103,97,110,116,114,121,47,114,111,119,115,46,116,111,117,99,104]= [453]∧sQ [103,97,110,116,114,121,47,114,111,119,115,46,112,97,105,114,115]= [228]∧sQ [103,97,110,116,114,121,47,114,111,119,115,46,112,117,108,108]= [454]∧sQ [103,97,110,116,114,121,47,114,111,119,115,46,114,111,112,101,115]= [455]∧sQ [103,97,110,116,114,121,47,114,111,119,115,46,115,116,111,112]= [456]∧sQ [103,97,110,116,114,121,47,114,111,119,115,46,108,105,109,105,116,115]= [457]:=by
 have h:=nms
 simp only [List.map_cons,List.map_nil,List.cons.injEq,and_true] at h
 exact h
theorem Ri:sQ [103,97,110,116,114,121,47,98,114,111,97,100,46,97,120,101,115,36,49]= [449]:=FV.1
theorem Rj:sQ [103,97,110,116,114,121,47,98,114,111,97,100,46,97,120,101,115,36,50]= [450]:=FV.2.1
theorem Rk:sQ [103,97,110,116,114,121,47,98,114,111,97,100,46,97,120,101,115,36,51]= [451]:=FV.2.2.1
theorem Rl:sQ [103,97,110,116,114,121,47,98,114,111,97,100,46,97,120,101,115,36,52]= [452]:=FV.2.2.2.1
theorem Rm:sQ [103,97,110,116,114,121,47,114,111,119,115,46,116,111,117,99,104]= [453]:=FV.2.2.2.2.1
theorem Rh:sQ [103,97,110,116,114,121,47,114,111,119,115,46,112,97,105,114,115]= [228]:=FV.2.2.2.2.2.1
theorem Ro:sQ [103,97,110,116,114,121,47,114,111,119,115,46,112,117,108,108]= [454]:=FV.2.2.2.2.2.2.1
theorem Rp:sQ [103,97,110,116,114,121,47,114,111,119,115,46,114,111,112,101,115]= [455]:=FV.2.2.2.2.2.2.2.1
theorem Rq:sQ [103,97,110,116,114,121,47,114,111,119,115,46,115,116,111,112]= [456]:=FV.2.2.2.2.2.2.2.2.1
theorem Rr:sQ [103,97,110,116,114,121,47,114,111,119,115,46,108,105,109,105,116,115]= [457]:=FV.2.2.2.2.2.2.2.2.2
abbrev ov:List (String×DataW Unit):= [("gantry/broad.axes",Rows.laid_gantry_broad_axes),("gantry/rows.makers",Rows.laid_gantry_rows_makers)]
theorem G7:Tryz.prog.cellsOf 200=1:=by kernel_rfl
theorem Pa:Tryz.prog.cellsOf 201=1:=by kernel_rfl
theorem JP:Tryz.prog.cellsOf 203=2:=by kernel_rfl
theorem Wc:Tryz.prog.cellsOf 204=4:=by kernel_rfl
theorem Wk:Tryz.prog.cellsOf 315=1:=by kernel_rfl
theorem Wi:Tryz.prog.cellsOf 277=1:=by kernel_rfl
theorem Wl:Tryz.prog.cellsOf 317=2:=by kernel_rfl
theorem Au {W:World} (h:laidMetH Tryz.prog ov W): ∀(j:Nat) (v:Value), [fv 449,fv 450,fv 451,fv 452][j]? =some v→W.cell? ⟨0,j,none⟩=some v:=by
 obtain ⟨g,t,cs,fuel,p,hg,ht,hv,hd⟩:=h.funcs (List.mem_cons_self ..)
 obtain rfl:=Option.some.inj (gA.symm.trans hg)
 obtain rfl:=Option.some.inj (tA.symm.trans ht)
 have gj:DataW.trod (funcToken Tryz.prog) Tryz.prog W 0 (fun _=>true) true fuel 204 cs.toList=some (.agg [.agg [.held [103,97,110,116,114,121,47,98,114,111,97,100,46,97,120,101,115,36,49],.held [103,97,110,116,114,121,47,98,114,111,97,100,46,97,120,101,115,36,50]],.agg [.held [103,97,110,116,114,121,47,98,114,111,97,100,46,97,120,101,115,36,51],.held [103,97,110,116,114,121,47,98,114,111,97,100,46,97,120,101,115,36,52]]],p):=hd
 obtain ⟨xs,m,_,hx,hl,_,hel⟩:=DataW.trod_array Tryz.underlying204 gj
 rw [Wc] at hl
 have h0:=hel 0 (by decide)
 have h1:=hel 1 (by decide)
 rw [JP] at h0 h1
 simp only [Prod.mk.injEq,DataW.agg.injEq] at hx
 have e:cs.toList= [fv 449,fv 450,fv 451,fv 452]:=by
  match cs.toList,hl,h0,h1 with
  | [a,b,c,d],_,h0,h1=>
   match xs,hx,h0,h1 with
   | [x0,x1],hx,h0,h1=>
    simp only [List.map_cons,List.map_nil,List.cons.injEq,and_true] at hx
    obtain ⟨y0,z0⟩:=x0
    obtain ⟨y1,z1⟩:=x1
    simp only at hx
    obtain ⟨⟨rfl,rfl⟩,_⟩:=hx
    have e0:=pN Tryz.underlying203 rfl rfl G7 Pa JP Tryz.underlying200 Tryz.underlying201 Ri Rj (show DataW.trod _ _ _ _ _ _ _ _ [a,b]=_ from h0)
    have e1:=pN Tryz.underlying203 rfl rfl G7 Pa JP Tryz.underlying200 Tryz.underlying201 Rk Rl (show DataW.trod _ _ _ _ _ _ _ _ [c,d]=_ from h1)
    simp only [List.cons.injEq,and_true] at e0 e1
    rw [e0.1,e0.2,e1.1,e1.2]
 intro j v hj
 rw [World.var?_cell hg hv j,←Array.getElem?_toList,e,hj]
theorem A7 {v a b:Value} (h:v.cells.toList= [a,b]):v= .agg #[a,b]:=by
 cases v<;>first|(simp [Value.cells] at h;done)|skip
 rename_i cs
 obtain ⟨l⟩:=cs
 simp only [Value.cells] at h
 rw [h]
theorem rR {W:World} {n g0 g1:Nat} {m:MapEntry} {a:Int} {b0 b1:UInt8} {r0 r1:List UInt8} (hr: ∃y,rd Tryz.prog 3 (elemAt (funcToken Tryz.prog) Tryz.prog W 0 (fun _=>true) true n 317) m=some y)
  (hm:rg Tryz.prog 3 (elemAt (funcToken Tryz.prog) Tryz.prog W 0 (fun _=>true) true n 317) m=(.int .i64 a,.agg [.held (b0::r0),.held (b1::r1)]))
  (n0:((List.range Tryz.prog.funcs.size).filter fun f=>(Tryz.prog.funcs[f]?).any (·.name.toUTF8.data.toList == b0::r0))= [g0]) (n1:((List.range Tryz.prog.funcs.size).filter fun f=>(Tryz.prog.funcs[f]?).any (·.name.toUTF8.data.toList == b1::r1))= [g1]):
  m.key= .int .i64 a∧m.val= .agg #[fv g0,fv g1]:=by
 obtain ⟨y,hy⟩:=hr
 rw [rg_of hy] at hm
 subst hm
 have hk:=rd_key hy
 obtain ⟨⟨z,ps⟩,hz,e⟩:=rd_val hy
 simp only at hk e
 subst e
 constructor
 ·rw [keyOf_int Tryz.underlying3] at hk
  unfold mapKey at hk
  rw [Tryz.underlying3] at hk
  cases hkey:m.key<;>rw [hkey] at hk<;>simp at hk
  obtain ⟨⟨rfl,_⟩,rfl⟩:=hk
  rfl
 ·unfold elemAt at hz
  split at hz
  ·exact A7 (pN Tryz.underlying317 rfl rfl Wk Wi Wl Tryz.underlying315 Tryz.underlying277 n0 n1 hz)
  ·cases hz
theorem BH {W:World} (h:laidMetH Tryz.prog ov W): ∃(bm:Nat) (ms:Array MapEntry) (clock:Nat) (l:List MapEntry),W.cell? ⟨1,0,none⟩=some (.map (some bm))∧W.heap[bm]? =some (.map ms clock)∧l.Perm ms.toList∧
  l.map (fun e=>(e.key,e.val))= [(.int .i64 0,.agg #[fv 453,fv 228]),(.int .i64 1,.agg #[fv 454,fv 455]),(.int .i64 2,.agg #[fv 456,fv 457])]:=by
 obtain ⟨g,t,cs,fuel,p,hg,ht,hv,hd⟩:=h.funcs (List.mem_cons_of_mem _ (List.mem_singleton.2 rfl))
 obtain rfl:=Option.some.inj (gM.symm.trans hg)
 obtain rfl:=Option.some.inj (tMk.symm.trans ht)
 have gj:DataW.trod (funcToken Tryz.prog) Tryz.prog W 0 (fun _=>true) true fuel 318 cs.toList=some (.map [(.int .i64 0,.agg [.held [103,97,110,116,114,121,47,114,111,119,115,46,116,111,117,99,104],.held [103,97,110,116,114,121,47,114,111,119,115,46,112,97,105,114,115]]),(.int .i64 1,.agg [.held [103,97,110,116,114,121,47,114,111,119,115,46,112,117,108,108],.held [103,97,110,116,114,121,47,114,111,119,115,46,114,111,112,101,115]]),(.int .i64 2,.agg [.held [103,97,110,116,114,121,47,114,111,119,115,46,115,116,111,112],.held [103,97,110,116,114,121,47,114,111,119,115,46,108,105,109,105,116,115]])],p):=hd
 rcases WideElems.open_map Tryz.underlying318 gj with ⟨_,hx⟩|⟨bm,es,clock,n,rfl,hcs,hb,_,F,hx⟩
 ·simp at hx
 ·simp only [Prod.mk.injEq,DataW.map.injEq] at hx
  have hp:=tW (es.toList.map (rg Tryz.prog 3 (elemAt (funcToken Tryz.prog) Tryz.prog W 0 (fun _=>true) true n 317)))
  rw [←hx.1] at hp
  obtain ⟨l,hl,e⟩:=EX hp.symm rfl
  refine ⟨bm,es,clock,l,?_,hb,hl,?_⟩
  ·rw [World.var?_cell hg hv 0,←Array.getElem?_toList,hcs];rfl
  ·have hlen:l.length=3:=by simpa using congrArg List.length e
   match l,hlen,e with
   | [m0,m1,m2],_,e=>
    simp only [List.map_cons,List.map_nil,List.cons.injEq,and_true] at e
    have k0:=rR (F.reads _ (hl.mem_iff.1 (by simp))) e.1 Rm Rh
    have k1:=rR (F.reads _ (hl.mem_iff.1 (by simp))) e.2.1 Ro Rp
    have k2:=rR (F.reads _ (hl.mem_iff.1 (by simp))) e.2.2 Rq Rr
    simp only [List.map_cons,List.map_nil,k0.1,k0.2,k1.1,k1.2,k2.1,k2.2]
end Go.Vm
end
