/-
  A part: lemmas; conditions: those that each names.
-/
import Derived.Test.YtalmddmghdinkaaGreatDoorK
set_option linter.all false
set_option linter.deprecated false
noncomputable section
set_option maxRecDepth 100000
namespace Go.ah.X
open Go Go.ah Go.Proofs Go.Proofs.dI
def Og(c:bt)(n:Nat)(a b d:V)(e:S):ax:=
 b0 37 a e λa f=>bQ lx 37 f λf g=>ha 1 0 3 (cC 0 [(ab 0)]) [] g λg h=>br 3 a h λi=>iW g3 3 g i h λg h=>hv 3 a λi=>bq 1 i g h λ_
 g=>ha 16 0 49 (cC 0 mo) [] g λg h=>br 4 a h λi=>iW qR 49 g i h λg h=>hv 4 a λi=>bq 1 i g h λ_ g=>dO c 9 [b,(ab 6)] g λb g=>aw
 (λh i=>bP 5 i (an h) λj=>bq 5 (aD h) j i λ_ i=>bB e i [bf 5 i (aD h)]) λe=>ay .eql b (ab 0) λh=>aw (λi j=>e (iX i) j) λe=>aW
 h ( bd g (a6 1 a) λh i j=>dQ i h λh i k=>bd i (bH .sub cD h (ab 1)) λh i l=>dD i d λi m o=>bS c 9 [i,(ab 4)] m λi m p=>bd m (bH .add cD
 h i) λh i m=>bd i (a6 2 a) λi q r=>dx 1 i h q λ_ h i=>dX [0,1,3,0,8,31,63,127] [j,k,l,o,p,m,r,i] <| e [a,f] h) ( ay .eql b (ab 1) λh=>aw
 (λi j=>e (iX i) j) λe=>aW h ( br 3 a g λh=>cr h λh=>ay .gtr h (ab 0) λh=>aw (λi j=>e (iX i) j) λi=>aW h ( bd g (a6 3 a) λ
 h j k=>dQ j h λh j l=>dD j d λj m o=>bd m (a6 3 a) λm p q=>dQ p m λm p r=>dp (ga none p (eT (some ([m].flatMap cp.cc)) p (fP m))) λ
 m p s=>bS c 9 [j,m] p λj m p=>dD m d λm t u=>bS c 9 [m,(ab 9)] t λm t v=>bd t (bH .sub cD m (ab 1)) λm t w=>bd t (dW 1 h j) λh j t=>dx
 1 h m j λ_ h j=>dX [0,1,0,0,8,24,60,0,252,508,1023,2047] [k,l,o,q,r,s,p,u,v,w,t,j] <| i [a,f] h) ( i [a,f] g)) ( ay .eql b (ab 2) λh=>aw (λ
 i j=>e (iX i) j) λe=>aW h ( bd g (a6 3 a) λh i j=>dQ i h λh i k=>dD i d λi l m=>bS c 9 [i,(ab 20)] l λi l o=>kM l (some []) (some [])
 (fl 1 1 3 (cC 1 [(ab 0)]) [(0,1,i)] (aN l)) λi l p=>kM l (some ([h,i].flatMap cp.cc)) (some (cp.cc h)) (fD g3 3 h i (aN l)) λh i l=>bd i (a6
 3 a) λi q r=>dx 1 i h q λ_ h i=>dX [0,1,0,4,12,31,63,127] [j,k,m,o,p,l,r,i] <| e [a,f] h) ( ay .eql b (ab 3) λh=>aw (λi j=>e (iX i) j)
 λe=>aW h ( br 4 a g λh=>br 4 a g λi=>cr i λi=>ay .quo i (ab 2) λi=>aF (jn 16 h none (some i) none) λh=>hv 4 a λi=>bq 1 i h g
 λ_ h=>e [a,f] h) ( ay .eql b (ab 4) λb=>aw (λh i=>e (iX h) i) λe=>aW b ( br 4 a g λb=>cr b λb=>ay .gtr b (ab 0) λb=>aw (λh i
 =>e (iX h) i) λh=>aW b ( br 4 a g λb=>cr b λb=>cX c 9 [d,b] g λb i=>bd i (a6 4 a) λi j k=>dQ j i λi j l=>dD j b λj m o=>bd
 m (a6 4 a) λm p q=>dQ p m λm p r=>dD p b λb p s=>bd p (dW 16 m b) λb m p=>bd m (a6 8 b) λb m t=>bd m (a6 0 b) λb m u=>b7 4 m b λb m
 v=>dD m d λm w x=>bS c 9 [m,(ab 5)] w λm w y=>bS c 28 [m,(ab 2)] w λm w z=>bS c 33 [b,m] w λb m w=>bd m (dW 16 i j) λi j m=>bd j (a6
 8 i) λi j A=>bd j (a6 0 i) λi j B=>dx 4 i b j λ_ b i=>dX [0,1,0,0,8,0,56,120,248,504,0,1024,3072,8184,16383,32767,65535,131071] [k,l,o,q,r,
 s,p,t,u,v,x,y,z,w,m,A,B,i] <| h [a,f] b) ( h [a,f] g)) ( bd g (a6 1 a) λb g h=>dQ g b λb g i=>dD g d λd g j=>bS c 9 [d,(ab 5)] g λd g k=>
 bd g (bH .sub cD b d) λb d g=>bd d (a6 1 a) λd l m=>dx 1 d b l λ_ b d=>dX [0,1,0,4,15,31,63] [h,i,j,k,g,m,d] <| e [a,f] b)))))
theorem agI{O:bo}(h:O 8=none):bz O funcs types 8 (hA Og):=.hA h (bn Tryz.func8 aA) λ_ _ _ _ _ _=>aA
def Ja(c:bt)(n:Nat)(a b:V)(d:S):ax:=
 ay .lss a (ab 0) λe=>aw (λf g=>ay .rem (an f) (aD f) λf=>cY d g f) λf=>aW e ( ay .add a (ab 1) λe=>aF (un .neg e) λe=>f [e,b]
 d) ( f [a,b] d)
theorem V1{O:bo}(h:O 9=none):bz O funcs types 9 (bh Ja):=.bh h (bn Tryz.func9 aA) λ_ _ _ _ _=>aA
def Nr(c:bt)(n:Nat)(a b d:V)(e:S):ax:=
 b0 28 a e λa f=>b0 33 b f λb f=>bQ mo 49 f λf g=>br 0 a g λh=>cr h λh=>bZ (c6 g (eV types 30 h h (aN g))) λg h=>bP 4 h a
 λa=>bP 4 h b λb=>cX c 40 [a,b,g,g,d,(ab 0)] h λa b=>bq 16 f a b λ_ a=>bB e a [bf 16 a f]
theorem afE{O:bo}(h:O 10=none):bz O funcs types 10 (hA Nr):=.hA h (bn Tryz.func10 aA) λ_ _ _ _ _ _=>aA
def H6(c:bt)(n:Nat)(a b:V)(d:S):ax:=
 b0 37 a d λa e=>b0 37 b e λb e=>br 0 a e λf=>br 0 b e λg=>ay .neq f g λf=>az f false (a6 1 a) λg=>az f false (cZ e g) λg=>az f
 false (a6 1 b) λh=>az f false (cZ e h) λh=>az f false (bH .neq cD g h) λg=>aF (di f (.bool true) g) λf=>az f false (a6 2 a) λg=>az f false
 (cZ e g) λg=>az f false (a6 2 b) λh=>az f false (cZ e h) λh=>az f false (bH .neq cD g h) λg=>aF (di f (.bool true) g) λf=>az f false (a6
 3 a) λg=>az f false (cZ e g) λg=>az f false (a6 3 b) λh=>az f false (cZ e h) λh=>bZ (gJ f false (cJ c false true (.fn 47 [] []) [g,h] e) e) λ
 e g=>az f false (un .not e) λe=>aF (di f (.bool true) e) λe=>az e false (a6 4 a) λf=>az e false (cZ g f) λf=>az e false (fP f) λf=>az
 e false (a6 4 b) λh=>az e false (cZ g h) λh=>az e false (fP h) λh=>az e false (bH .neq cD f h) λf=>aF (di e (.bool true) f) λe=>aw (λf
 h=>aw (λ_ i=>cY d i (.bool true)) λi=>cT n (λj k l=>br 4 (aD k) l λm=>cr m λm=>ay .lss (an k) m λm=>aw (λo p=>aw (λq r=>ay .add
 (an q) (ab 1) λs=>j (s::lS q) r) λj=>br 4 (aD o) p λq=>ke 16 q (an o) p λq=>br 4 (aU o) p λr=>ke 16 r (an o) p λr=>ij
 c 48 [q,r] p λp q=>aF (un .not p) λp=>aw (λr s=>j (fT r) s) λj=>aW p ( cY d q (.bool false)) ( j (fT o) q)) λj=>aW m ( j (fT k) l) ( i
 [] l)) ((ab 0)::iX f) h) λf=>aW e ( cY d g (.bool false)) ( f [a,b] g)
theorem U2{O:bo}(h:O 16=none):bz O funcs types 16 (bh H6):=.bh h (bn Tryz.func16 aA) λ_ _ _ _ _=>aA
def NX(c:bt)(n:Nat)(a:V)(b:S):ax:=
 bQ ec 45 b λd e=>cX c 28 [a,(ab 1)] e λa e=>bq 4 d a e λ_ a=>bB b a [bf 4 a d]
theorem agl{O:bo}(h:O 34=none):bz O funcs types 34 (cN NX):=.cN h (bn Tryz.func34 aA) λ_ _ _ _=>aA
def N0(c:bt)(n:Nat)(a b:V)(d:S):ax:=
 b0 28 a d λa e=>b0 33 b e λb e=>br 0 b e λf=>ay .lss f (ab 0) λf=>az f false (a6 0 b) λg=>az f false (cZ e g) λg=>az f false (bH .gtr
 cD g (ab 1048576)) λg=>aF (di f (.bool true) g) λf=>az f false (a6 1 b) λg=>az f false (cZ e g) λg=>az f false (fP g) λg=>az f false (a6
 0 a) λh=>az f false (cZ e h) λh=>az f false (fP h) λh=>az f false (bH .neq cD g h) λg=>aF (di f (.bool true) g) λf=>az f false (a6 2 b)
 λg=>az f false (cZ e g) λg=>az f false (fP g) λg=>az f false (a6 0 a) λh=>az f false (cZ e h) λh=>az f false (fP h) λh=>az f false (bH .neq
 cD g h) λg=>aF (di f (.bool true) g) λf=>az f false (a6 3 b) λg=>az f false (cZ e g) λg=>az f false (fP g) λg=>az f false (a6 1 a) λh
 =>az f false (cZ e h) λh=>az f false (fP h) λh=>az f false (bH .neq cD g h) λg=>aF (di f (.bool true) g) λf=>aw (λg h=>br 1 (aD g) h
 λi=>dO c 71 [i] h λh i=>aF (un .not h) λh=>az h false (a6 2 (aD g)) λj=>az h false (cZ i j) λj=>bZ (gJ h false (cJ c false false (.fn
 71 [] []) [j] i) i) λi j=>az h false (un .not i) λi=>aF (di h (.bool true) i) λh=>aw (λi k=>bP 4 k (an i) λl=>bP 4 k (aD i) λm=>dO
 c 38 [l,m] k λk l=>aw (λm o=>bP 4 o (aD m) λp=>bP 4 o (aU m) λq=>dO c 73 [p,q] o λo p=>aw (λq r=>aw (λs t=>aw (λ_ u=>e5 true
 d u [some (ab 0)]) λu=>cT n (λv w x=>br 2 (aD w) x λy=>cr y λy=>ay .lss (an w) y λy=>aw (λz A=>aw (λB aQ=>ay .add (an B) (ab
 1) λcB=>v (cB::lS B) aQ) λv=>br 2 (aD z) A λB=>ke 23 B (an z) A λB=>bQ [(ab 0),(ab 0),(.bool false),.af,(.bool false),.af,(.bool false),.af,
 (.bool false),.af,(.bool false),.af,(.bool false),.af,(.bool false),.af,(.bool false),.af,.af,(.bool false),.af,(.bool false),.af] 99 A λA aQ=>bq
 23 A B aQ λ_ B=>bP 4 B (aD z) λaQ=>bP 4 B (aU z) λcB=>bP 23 B A λF=>cX c 79 [aQ,cB,F] B λB aQ=>aF (dS 0 B) λcB=>aF (dS 1 B) λF=>
 aF (dS 2 B) λB=>bQ gG 47 aQ λaQ G=>bQ gG 47 G λG H=>bq 8 aQ cB H λ_ cB=>bq 8 G F cB λ_ cB=>aw (λF H=>v (fT F) H) λv=>cT n (λF H
 I=>br 18 (bY H) I λe4=>cr e4 λe4=>ay .lss (an H) e4 λe4=>az e4 true (some (aD H)) λK=>aF (di e4 K (.bool false)) λe4=>aw (λK L=>aw (λ
 M N=>ay .add (an M) (ab 1) λO=>F (O::zc M) N) λF=>bd L (a6 18 (bY K)) λL M N=>dQ M L λL M O=>dD M (an K) λM P Q=>bd P (dW 3 L
 M) λL M P=>b7 3 M L λL M R=>b7 8 M (aU K) λM S T=>b7 8 S (bm K) λS b3 V=>bS c 74 [M,S] b3 λM S b3=>bS c 81 [L,M] S λL M S=>bd M (a6 18
 (bY K)) λM W X=>dQ W M λM W bJ=>dD W (an K) λW ak vd=>bd ak (dW 3 M W) λM W ak=>bd W (a6 2 M) λM W a0=>dQ W M λM W asL=>bS c 28 [M,(ab
 1)] W λM W asM=>bS c 80 [L,M] W λL M W=>lT ec 45 M λM Ts asO=>dx 4 M L Ts λ_ L Ts=>dX [0,1,0,7,15,0,0,96,255,0,512,0,3584,7680,15872,32767,
 65535,0,262143] [N,O,Q,P,R,T,V,b3,S,X,bJ,vd,ak,a0,asL,asM,W,asO,Ts] <| bP 4 L M λM=>hn 19 (bY K) 4 L λN=>dO c 78 [M,N] L λL M=>ay .gtr L (ab
 0) λL=>aw (λN O=>F (AD N) O) λF=>aW L ( e5 true d M [some (ab 5)]) ( F (AD K) M)) λF=>aW e4 ( F (AD H) I) ( v [(dd H),(eS H),(ik H)]
 I)) [(ab 0),B,G,aQ,A,(an z),(aD z),(aU z)] cB) λv=>aW y ( v (fT w) x) ( u [] x)) ((ab 0)::iX s) t) λs=>cT n (λt u v=>cr (aD u) λ
 w=>ay .lss (an u) w λw=>aw (λx y=>aw (λz A=>ay .add (an z) (ab 1) λB=>t (B::kL z) A) λt=>br 0 (aU x) y λz=>ke 17 z (an x)
 y λz=>bQ [(.bool false),.af,(.bool false),.af,(.bool false),.af,(.bool false),.af,(.bool false),(.bool false),.af,(.bool false),.af,(.bool false),.af,
 (.bool false),.af] 130 y λy A=>bq 17 y z A λ_ z=>eG 1 (aD x) (an x) z λA=>az A true (a6 8 y) λB=>az A true (cZ z B) λB=>aF (di A B
 (.bool false)) λA=>az A true (a6 1 (bm x)) λB=>az A true (cZ z B) λB=>az A true (some (an x)) λaQ=>az A true (dW 4 B aQ) λB=>az A true (bf
 4 z B) λB=>az A true (a6 9 y) λaQ=>az A true (bf 4 z aQ) λaQ=>bZ (gJ A true (cJ c true false (.fn 78 [] []) [B,aQ] z) z) λz B=>az A true (bH .lss
 cD z (ab 0)) λz=>az A true (some z) λz=>az z false (a6 1 (bm x)) λaQ=>az z false (cZ B aQ) λaQ=>az z false (some (an x)) λcB=>az z false (dW
 4 aQ cB) λaQ=>az z false (bf 4 B aQ) λaQ=>az z false (a6 13 y) λy=>az z false (bf 4 B y) λy=>bZ (gJ z false (cJ c true false (.fn 78 [] []) [aQ,y] B)
 B) λy B=>az z false (bH .gtr cD y (ab 0)) λy=>az A true (di z (.bool true) y) λy=>aF (di A y (.bool false)) λy=>aw (λz A=>t (gA z) A) λ
 t=>aW y ( e5 true d B [some (ab 5)]) ( t (gA x) B)) λt=>aW w ( t (gA u) v) ( s [(aU u),(bm u)] v)) ((ab 0)::fT q) r) λq=>cT n (λr s t
 =>cr (aD s) λu=>ay .lss (an s) u λu=>aw (λv w=>aw (λx y=>ay .add (an x) (ab 1) λz=>r (z::mO x) y) λr=>hV 2 (aD v) (an v)
 λx=>aF (nR 2 1 x (ab 0)) λx=>RJ w x λx=>hV 2 (aD v) (an v) λy=>aF (nR 2 1 y (ab 1)) λy=>RJ w y λy=>b7 4 w (bm v) λw z A
 =>bd z (a6 1 (bY v)) λz B aQ=>dQ B z λz B cB=>dD B y λB F G=>bS c 75 [w,z,B] F λw z B=>b7 4 z (bm v) λz F H=>bd F (a6 1 (bY v)) λ
 F I e4=>dQ I F λF I K=>dD I x λI L M=>bS c 75 [z,F,I] L λz F I=>bS c 74 [w,z] F λw z F=>lT gG 47 z λz L N=>dx 8 z w L λ_ w L=>dX [0,
 0,2,0,15,0,0,64,0,511,1023,0,4095] [A,aQ,cB,G,B,H,e4,K,M,I,F,N,L] <| br 1 (bm v) w λA=>hV 18 A x λx=>br 0 x w λx=>br 1 (bm v) w λ
 A=>hV 18 A y λy=>br 0 y w λy=>ij c 77 [x,y] w λw x=>bP 8 x z λy=>ij c 76 [w,y] x λw x=>aw (λy z=>r (iY y) z) λr=>aW w ( e5
 true d x [some (ab 14)]) ( r (iY v) x)) λr=>aW u ( r (iY s) t) ( q [(aU s),(bm s),(bY s)] t)) [(ab 0),o,(an m),(aD m),(aU m)] p) λm=>cT
 n (λo p q=>cr (aD p) λr=>ay .lss (an p) r λr=>aw (λs t=>aw (λu v=>ay .add (an u) (ab 1) λw=>o (w::kL u) v) λo=>eG 1 (aD
 s) (an s) t λu=>aF (un .not u) λu=>az u true (a6 2 (bm s)) λv=>az u true (cZ t v) λv=>az u true (some (an s)) λw=>az u true (dW 4 v w)
 λv=>az u true (bf 4 t v) λv=>bZ (gJ u true (cJ c false false (.fn 72 [] []) [v] t) t) λt v=>az u true (bH .neq cD t (ab 0)) λt=>aF (di u t
 (.bool false)) λt=>aw (λu w=>o (gA u) w) λo=>aW t ( e5 true d v [some (ab 1)]) ( o (gA s) v)) λo=>aW r ( o (gA p) q) ( m (kL p) q)) [(ab
 0),k,(an i),(aD i)] l) λi=>aW h ( e5 true d j [some (ab 1)]) ( i (iX g) j)) λg=>aW f ( e5 true d e [some (ab 1)]) ( g [a,b] e)
theorem ago{O:bo}(h:O 37=none):bz O funcs types 37 (bh N0):=.bh h (bn Tryz.func37 aA) λ_ _ _ _ _=>aA
def N1(c:bt)(n:Nat)(a b:V)(d:S):ax:=
 b0 28 a d λa e=>b0 33 b e λb e=>br 0 a e λf=>cr f λf=>bZ (c6 e (eV types 31 f f (aN e))) λe f=>aw (λg h=>e5 true d h [some (an
 g)]) λd=>cT n (λg h i=>br 1 (aD h) i λj=>cr j λj=>ay .lss (an h) j λj=>aw (λk l=>aw (λm o=>ay .add (an m) (ab 1) λp=>g
 (p::kL m) o) λg=>br 1 (aD k) l λm=>hV 18 m (an k) λm=>br 9 m l λm=>aw (λo p=>g (gA o) p) λg=>cT n (λo p q=>cr (aD p) λ
 r=>ay .lss (an p) r λr=>aw (λs t=>aw (λu v=>ay .add (an u) (ab 1) λw=>o (w::rG u) v) λo=>br 3 (bY s) t λu=>eG 1 u (aU s) t
 λu=>aw (λv w=>o (kd v) w) λo=>aW u ( hV 13 (aD s) (an s) λu=>br 0 u t λu=>hV 1 (dd s) u λu=>bq 1 u (.bool true) t λ_ u=>o (kd
 s) u) ( o (kd s) t)) λo=>aW r ( o (kd p) q) ( g [(aU p),(bm p),(bY p),(dd p)] q)) [(ab 0),m,(an k),(aD k),(aU k),(bm k)] l) λg=>
 aW j ( g (gA h) i) ( d [(bm h)] i)) [(ab 0),a,b,e] f
theorem agp{O:bo}(h:O 38=none):bz O funcs types 38 (bh N1):=.bh h (bn Tryz.func38 aA) λ_ _ _ _ _=>aA
def II(c:bt)(n:Nat)(a:V)(b:S):ax:=
 b0 55 a b λa d=>br 3 a d λe=>cr e λe=>br 4 a d λf=>cr f λf=>ay .eql e f λe=>az e true (a6 1 a) λf=>az e true (cZ d f) λf=>
 az e true (a6 2 a) λg=>az e true (cZ d g) λg=>az e true (bH .leq cD f g) λf=>aF (di e f (.bool false)) λe=>az e true (a6 3 a) λa=>az e
 true (cZ d a) λa=>bZ (gJ e true (cJ c false true (.fn 86 [] []) [a] d) d) λa d=>aF (di e a (.bool false)) λa=>cY b d a
theorem VB{O:bo}(h:O 41=none):bz O funcs types 41 (cN II):=.cN h (bn Tryz.func41 aA) λ_ _ _ _=>aA
def IV(c:bt)(n:Nat)(a b:V)(d:S):ax:=
 dO c 92 [a,b] d λa b=>ay .geq a (ab 0) λa=>cY d b a
theorem VM{O:bo}(h:O 49=none):bz O funcs types 49 (bh IV):=.bh h (bn Tryz.func49 aA) λ_ _ _ _ _=>aA
def IW(c:bt)(n:Nat)(a b:V)(d:S):ax:=
 b0 108 a d λa e=>br 4 b e λb=>bP 16 e a λa=>cX c 51 [b,a] e λa b=>cr a λa=>ay .gtr a (ab 0) λa=>cY d b a
theorem VN{O:bo}(h:O 50=none):bz O funcs types 50 (bh IW):=.bh h (bn Tryz.func50 aA) λ_ _ _ _ _=>aA
def Wh(c:bt)(n:Nat)(a:V)(b:S):ax:=
 cr a λd=>aw (λe f=>dO c 99 [.af,(an e)] f λf g=>cr (aD e) λh=>aw (λi j=>cY b j (an i)) λi=>cT n (λj k l=>ay .lss (an
 k) (aD k) λm=>aw (λo p=>aw (λq r=>ay .add (an q) (ab 1) λs=>j (s::kL q) r) λj=>eG 1 (bm o) (aD o) p λq=>iW x0 5 (an o) q p
 λp q=>j [(aD o),(aU o),(bm o),p] q) λj=>aW m ( j [(bm k),(an k),(aD k),(aU k)] l) ( i [(bm k)] l)) [(ab 0),h,(aD e),f] g) λe=>
 cT n (λf g h=>ay .lss (an g) (aD g) λi=>aw (λj k=>aw (λl m=>ay .add (an l) (ab 1) λo=>f (o::mO l) m) λf=>eG 1 (bm j) (aD
 j) k λl=>cr l λl=>ay .add (an j) l λl=>ay .lss l (ab 0) λm=>aw (λo p=>f (iY o) p) λf=>aW m ( none) ( f [(aD j),(aU j),(bm j),
 l,(bY j)] k)) λf=>aW i ( f [(bm g),(an g),(aD g),(aU g),(bY g)] h) ( e [(bm g),(bY g)] h)) [(ab 0),d,a,(ab 0),a] b
theorem agu{O:bo}(h:O 57=none):bz O funcs types 57 (cN Wh):=.cN h (bn Tryz.func57 aA) λ_ _ _ _=>aA
def I2(c:bt)(n:Nat)(a b:V)(d:S):ax:=
 b0 43 a d λa e=>b0 43 b e λb e=>bQ [(.bool false),.af] 43 e λe f=>br 0 a f λg=>br 0 b f λh=>aF (bH .eql (aJ.get types 4) g h) λg=>aw
 (λh i=>br 1 (an h) i λj=>br 1 (aD h) i λk=>dO c 118 [j,k] i λi j=>ay .lss i (ab 0) λi=>aw (λk l=>bd l (a6 0 (an k)) λl m o=>
 dQ m l λl m p=>bd m (a6 1 (an k)) λm q r=>dQ q m λm q s=>bd q (a6 1 (aD k)) λq t u=>dQ t q λq t v=>bS c 119 [m,q] t λm q t=>bS c
 116 [l,m] q λl m q=>dx 2 (aU k) l m λ_ l m=>dX [0,1,0,4,0,16,60,127,255] [o,p,r,s,u,v,t,q,m] <| bB d l [bf 2 l (aU k)]) λk=>aW i ( bd
 j (a6 0 (aD h)) λi l m=>dQ l i λi l o=>bd l (a6 1 (aD h)) λl p q=>dQ p l λl p r=>bd p (a6 1 (an h)) λp s t=>dQ s p λp s u=>bS c
 119 [l,p] s λl p s=>bS c 116 [i,l] p λi l p=>dx 2 (aU h) i l λ_ i l=>dX [0,1,0,4,0,16,60,127,255] [m,o,q,r,t,u,s,p,l] <| bB d i [bf 2 i
 (aU h)]) ( k (fT h) j)) λh=>aW g ( bd f (a6 0 a) λg i j=>dQ i g λg i k=>bd i (a6 1 a) λi l m=>dQ l i λi l o=>bd l (a6 1 b) λl p q=>
 dQ p l λl p r=>bS c 117 [i,l] p λi l p=>bS c 116 [g,i] l λg i l=>dx 2 e g i λ_ g i=>dX [0,1,0,4,0,16,60,127,255] [j,k,m,o,q,r,p,l,i]
 <| bB d g [bf 2 g e]) ( h [a,b,e] f)
theorem VT{O:bo}(h:O 70=none):bz O funcs types 70 (bh I2):=.bh h (bn Tryz.func70 aA) λ_ _ _ _ _=>aA
def Oi(c:bt)(n:Nat)(a b:V)(d:S):ax:=
 b0 94 a d λa e=>b0 47 b e λb e=>bQ ec 45 e λe f=>bd f (a6 0 a) λf g h=>dQ g f λf g i=>bS c 28 [f,(ab 1)] g λf g j=>bd g (a6 0 b)
 λg k l=>b7 4 k g λg k m=>bS c 83 [f,g] k λf g k=>bd g (a6 1 a) λa g o=>dQ g a λa g p=>bS c 28 [a,(ab 1)] g λa g q=>bd g (a6 4 b) λ
 b g r=>b7 4 g b λb g s=>bS c 83 [a,b] g λa b g=>bS c 33 [f,a] b λa b f=>dx 4 e a b λ_ a b=>dX [0,1,3,0,8,31,0,64,255,0,512,2047,4095,8191]
 [h,i,j,l,m,k,o,p,q,r,s,g,f,b] <| bB d a [bf 4 a e]
theorem agK{O:bo}(h:O 81=none):bz O funcs types 81 (bh Oi):=.bh h (bn Tryz.func81 aA) λ_ _ _ _ _=>aA
def I5(c:bt)(n:Nat)(a b:V)(d:S):ax:=
 b0 45 a d λa e=>b0 45 b e λb e=>bQ ec 45 e λe f=>bd f (a6 0 a) λf g h=>b7 2 g f λf g i=>bd g (a6 0 b) λg j k=>b7 2 j g λg j l=>
 bS c 68 [f,g] j λf g j=>b7 4 g a λa g m=>bS c 69 [a] g λa g o=>b7 4 g b λb g p=>bS c 69 [b] g λb g q=>bS c 68 [a,b] g λa b g=>bS c 66 [f,
 a] b λa b f=>dx 4 e a b λ_ a b=>dX [0,1,0,4,15,0,63,0,255,511,1023,2047] [h,i,k,l,j,m,o,p,q,g,f,b] <| bB d a [bf 4 a e]
theorem VW{O:bo}(h:O 83=none):bz O funcs types 83 (bh I5):=.bh h (bn Tryz.func83 aA) λ_ _ _ _ _=>aA
def I6(c:bt)(n:Nat)(a:V)(b:S):ax:=
 cr a λd=>aw (λ_ e=>cY b e (.bool true)) λe=>cT n (λf g h=>ay .lss (an g) (aD g) λi=>aw (λj k=>aw (λl m=>ay .add (an l) (ab
 1) λo=>f (o::kL l) m) λf=>eG 1 (aU j) (an j) k λl=>ay .lss l (ab 0) λm=>az m false (some (an j)) λo=>az m false (bH .gtr cD o (ab
 0)) λo=>az m false (some o) λo=>az o true (some l) λl=>az o true (some (bm j)) λp=>az o true (some (an j)) λq=>az o true (bH .sub cD q (ab
 1)) λq=>az o true (dW 1 p q) λp=>az o true (cZ k p) λp=>az o true (bH .leq cD l p) λl=>az m false (di o l (.bool false)) λl=>aF (di m (.bool
 true) l) λl=>aw (λm o=>f (gA m) o) λf=>aW l ( cY b k (.bool false)) ( f (gA j) k)) λf=>aW i ( f (gA g) h) ( e [] h)) [(ab 0),d,a,a] b
theorem VX{O:bo}(h:O 86=none):bz O funcs types 86 (cN I6):=.cN h (bn Tryz.func86 aA) λ_ _ _ _=>aA
def V9(c:bt)(n:Nat)(a b:V)(d:S):ax:=
 dO c 109 [a] d λe f=>aF (dS 0 e) λg=>aF (dS 1 e) λh=>aF (dS 2 e) λe=>aF (bH .neq (aJ.get types 58) e (ab 0)) λi=>aw (λj k=>ay .lss
 (aU j) (ab 0) λl=>aw (λm o=>cr (aD m) λp=>ay .gtr (aU m) p λp=>az p false (some (aU m)) λq=>az p false (some (an m)) λr=>az
 p false (bH .mul cD q r) λq=>az p false (some (aD m)) λr=>az p false (fP r) λr=>az p false (some (bm m)) λs=>az p false (bH .sub cD r s) λ
 r=>az p false (bH .gtr cD q r) λq=>aF (di p (.bool true) q) λp=>aw (λq r=>bB d r [some (an q),some (aD q),some (ab 0)]) λq=>aW p ( bB
 d o [some (ab 0),some (ab 0),some (ab 3)]) ( q [(aU m),(bm m)] o)) λm=>aW l ( bB d k [some (ab 0),some (ab 0),some (ab 2)]) ( m (gA j) k)) λj
 =>aW i ( bB d f [some (ab 0),some (ab 0),some e]) ( j [b,a,g,h] f)
theorem afI{O:bo}(h:O 108=none):bz O funcs types 108 (bh V9):=.bh h (bn Tryz.func108 aA) λ_ _ _ _ _=>aA
def HD(c:bt)(n:Nat)(a:V)(b:S):ax:=
 b0 43 a b λa d=>br 0 a d λe=>az e false (a6 1 a) λf=>az e false (cZ d f) λf=>az e false (fP f) λf=>az e false (bH .neq cD f (ab 1)) λ
 f=>aF (di e (.bool true) f) λe=>aw (λf g=>br 1 (an f) g λf=>eG 1 f (ab 0) g λf=>ay .eql f (ab 1) λf=>cY b g f) λf=>aW e ( cY
 b d (.bool false)) ( f [a] d)
theorem Uz{O:bo}(h:O 115=none):bz O funcs types 115 (cN HD):=.cN h (bn Tryz.func115 aA) λ_ _ _ _=>aA
def HN(c:bt)(n:Nat)(a b:V)(d:S):ax:=
 cr a λe=>cr b λf=>ay .neq e f λe=>aw (λf g=>cr (an f) λh=>aw (λ_ i=>cY d i (.bool true)) λi=>cT n (λj k l=>ay .lss (an
 k) (aD k) λm=>aw (λo p=>aw (λq r=>ay .add (an q) (ab 1) λs=>j (s::kL q) r) λj=>eG 1 (aU o) (an o) p λq=>eG 1 (bm o) (an
 o) p λr=>ay .neq q r λq=>aw (λr s=>j (gA r) s) λj=>aW q ( cY d p (.bool false)) ( j (gA o) p)) λj=>aW m ( j (gA k) l) ( i [] l)) [(ab 0),
 h,(an f),(aD f)] g) λf=>aW e ( cY d d (.bool false)) ( f [a,b] d)
theorem UJ{O:bo}(h:O 134=none):bz O funcs types 134 (bh HN):=.bh h (bn Tryz.func134 aA) λ_ _ _ _ _=>aA
def HO(c:bt)(n:Nat)(a b:V)(d:S):ax:=
 bQ [(ab 0),(ab 0)] 82 d λe f=>cr a λg=>ay .lss g (ab 1) λg=>aw (λh i=>ke 2 (aD h) (ab 0) i λj=>bQ [(ab 0),(ab 0)] 82 i λi k=>
 bq 2 i j k λ_ j=>aw (λk l=>bP 2 l (an k) λm=>bq 2 (aD k) m l λ_ l=>bB d l [bf 2 l (aD k)]) λd=>cT n (λk l m=>cr (aU l) λo
 =>ay .lss (an l) o λo=>aw (λp q=>aw (λr s=>ay .add (an r) (ab 1) λt=>k (t::mO r) s) λk=>ke 2 (aU p) (an p) q λr=>bP 2 q (bm
 p) λs=>bZ (cJ c true false (aD p) [r,s] q) λq r=>ay .lss q (ab 0) λq=>aw (λs t=>k (iY s) t) λk=>aW q ( ke 2 (aU p) (an p) r λ
 q=>bq 2 (bm p) q r λ_ q=>k (iY p) q) ( k (iY p) r)) λk=>aW o ( k (iY l) m) ( d [(bm l),(bY l)] m)) [(ab 1),(an h),(aD h),i,(aU h)]
 j) λd=>aW g ( none) ( d [b,a,e] f)
theorem UK{O:bo}(h:O 135=none):bz O funcs types 135 (bh HO):=.bh h (bn Tryz.func135 aA) λ_ _ _ _ _=>aA
def HP(c:bt)(n:Nat)(a b d:V)(e:S):ax:=
 b0 82 a e λa f=>b0 82 b f λb f=>br 1 d f λg=>bP 2 f a λa=>bZ (cJ c true false g [a] f) λa f=>br 1 d f λd=>bP 2 f b λb=>bZ (cJ
 c true false d [b] f) λb d=>ij c 137 [a,b] d λa b=>cY e b a
theorem UL{O:bo}(h:O 136=none):bz O funcs types 136 (hA HP):=.hA h (bn Tryz.func136 aA) λ_ _ _ _ _ _=>aA
def HV(c:bt)(n:Nat)(a b:V)(d:S):ax:=
 b0 45 a d λa e=>b0 45 b e λb e=>bQ ec 45 e λe f=>aw (λg h=>b7 4 h (an g) λh i j=>bS c 179 [h] i λh i k=>b7 4 i (aD g) λi l m=>
 bS c 179 [i] l λi l o=>lT [(.bool false),.af] 43 l λl p q=>lT [(.bool false),.af] 43 p λp r s=>dx 2 l h r λ_ h r=>dx 2 p i h λ_ h i=>dX [0,
 1,0,7,0,0,63,127] [j,k,m,o,q,s,r,i] <| bd h (a6 0 (an g)) λh i j=>b7 2 i h λh i k=>b7 2 i p λi m o=>bS c 181 [h,i] m λh i m=>bd i (a6
 0 (aD g)) λi q r=>b7 2 q i λi q s=>b7 2 q l λq t u=>bS c 181 [i,q] t λi q t=>bS c 178 [h,i] q λh i q=>b7 2 i l λi l v=>b7 2 l p λl
 p w=>bS c 181 [i,l] p λi l p=>bS c 180 [h,i] l λh i l=>dx 4 (aU g) h i λ_ h i=>dX [0,1,0,7,0,16,0,127,255,0,0,2047,4095,8191] [j,k,o,m,
 r,s,u,t,q,v,w,p,l,i] <| bB d h [bf 4 h (aU g)]) λg=>hv 2 a λh=>br 1 h f λh=>cr h λh=>ay .eql h (ab 0) λh=>az h true (a6 2 b) λ
 i=>az h true (a6 1 i) λi=>az h true (cZ f i) λi=>az h true (fP i) λi=>az h true (bH .eql cD i (ab 0)) λi=>aF (di h i (.bool false)) λh
 =>aw (λi j=>g (fT i) j) λg=>aW h ( hn 0 a 2 f λh=>hn 0 b 2 f λi=>cX c 178 [h,i] f λh i=>aF (bW ec [(0,2,h)]) λh=>bq 4 e h i
 λ_ h=>bB d h [bf 4 h e]) ( hv 0 a λh=>br 1 h f λh=>cr h λh=>ay .eql h (ab 0) λh=>aw (λi j=>g (fT i) j) λg=>aW h ( bP 4 f b λ
 h=>bq 4 e h f λ_ h=>bB d h [bf 4 h e]) ( hv 0 b λh=>br 1 h f λh=>cr h λh=>ay .eql h (ab 0) λh=>aw (λi j=>g (fT i) j) λg=>aW
 h ( bP 4 f a λh=>bq 4 e h f λ_ h=>bB d h [bf 4 h e]) ( g [a,b,e] f)))
theorem UR{O:bo}(h:O 141=none):bz O funcs types 141 (bh HV):=.bh h (bn Tryz.func141 aA) λ_ _ _ _ _=>aA
def H4(c:bt)(n:Nat)(a:V)(b:S):ax:=
 b0 43 a b λa d=>br 0 a d λe=>aF (un .not e) λe=>az e true (a6 1 a) λf=>az e true (cZ d f) λf=>az e true (fP f) λf=>az e true (bH .eql
 cD f (ab 1)) λf=>aF (di e f (.bool false)) λe=>az e true (a6 1 a) λa=>az e true (cZ d a) λa=>az e true (dW 1 a (ab 0)) λa=>az e true (cZ
 d a) λa=>az e true (bH .eql cD a (ab 1)) λa=>aF (di e a (.bool false)) λa=>cY b d a
theorem U0{O:bo}(h:O 158=none):bz O funcs types 158 (cN H4):=.cN h (bn Tryz.func158 aA) λ_ _ _ _=>aA
def NG(c:bt)(n:Nat)(a:V)(b:S):ax:=
 b0 43 a b λa d=>bQ [(.bool false),.af] 43 d λd e=>br 0 a e λf=>aw (λg h=>aF (bW [(.bool false),.af] []) λi=>bQ [(.bool false),.af] 43
 h λh j=>bq 2 h i j λ_ i=>br 1 (an g) i λj=>cr j λj=>ay .quo j (ab 2) λj=>ay .add j (ab 1) λj=>bZ (c6 i (eV types 22 j j (aN
 i))) λi j=>ha 1 1 3 (cC 1 [(ab 0)]) [(0,1,(ab 1))] j λj k=>iW g3 3 i j k λi j=>cX c 116 [(.bool false),i] j λi j=>bQ [(.bool false),.af] 43
 j λj k=>bq 2 j i k λ_ i=>cX c 67 [(ab 1)] i λi k=>bQ [(.bool false),.af] 43 k λk l=>bq 2 k i l λ_ i=>cX c 67 [(ab 2)] i λi l=>bQ [(.bool
 false),.af] 43 l λl m=>bq 2 l i m λ_ i=>aw (λm o=>b7 2 o (an m) λo p q=>b7 2 p (an m) λp r s=>b7 2 r (an m) λr t u=>bS c 68 [p,r]
 t λp r t=>b7 2 r (aD m) λr v w=>bS c 128 [p,r] v λp r v=>bd r (bH .eql cD p (ab 0)) λp r x=>dx 2 (aU m) o r λ_ o r=>dD o p λo p y=>
 dX [0,0,0,6,0,30,62,63,255] [q,s,u,t,w,v,x,r,y] <| bB b p [bf 2 p (aU m),some o]) λm=>cT n (λo p q=>bP 2 q (bm p) λr=>bP 2 q (an
 p) λs=>ij c 70 [r,s] q λq r=>bP 2 r (aU p) λs=>ij c 128 [q,s] r λq r=>ay .lss q (ab 0) λq=>aw (λs t=>aw (λu v=>o (kd u) v) λ
 o=>b7 2 t (bm s) λt u v=>b7 2 u (aU s) λu w x=>bS c 70 [t,u] w λt u w=>b7 2 u (aD s) λu y z=>bS c 113 [t,u] y λt u y=>dD u t λt
 u A=>bd u (dS 0 t) λu B aQ=>bd B (dS 1 t) λt B cB=>lT [(.bool false),.af] 43 B λB F G=>lT [(.bool false),.af] 43 F λF H I=>dx 2 B u H λ_ u H
 =>dx 2 F t u λ_ t u=>dX [0,0,3,0,15,31,63,63,0,0,895,2047] [v,x,w,z,y,A,aQ,cB,G,I,H,u] <| bP 2 t B λu=>bP 2 t B λv=>ij c 68 [u,v] t λ
 t u=>bP 2 u (bY s) λv=>ij c 128 [t,v] u λt u=>ay .leq t (ab 0) λt=>aw (λv w=>o (kd v) w) λo=>aW t ( bP 2 u B λt=>bq 2 (bm s)
 t u λ_ t=>o (kd s) t) ( bP 2 u B λt=>bq 2 (aU s) t u λ_ t=>o (kd s) t)) λo=>aW q ( o (kd p) r) ( m [(bm p),(bY p),(dd p)] r)) [k,l,
 j,h,(an g),(aD g)] i) λg=>aW f ( aF (bW [(.bool false),.af] []) λf=>bq 2 d f e λ_ f=>bB b f [bf 2 f d,some (.bool false)]) ( g [a,d] e)
theorem afY{O:bo}(h:O 165=none):bz O funcs types 165 (cN NG):=.cN h (bn Tryz.func165 aA) λ_ _ _ _=>aA
def NN(c:bt)(n:Nat)(a:V)(b:S):ax:=
 b0 45 a b λa d=>bQ ec 45 d λd e=>bd e (a6 0 a) λe f g=>b7 2 f e λe f h=>bS c 114 [e] f λe f i=>bd f (a6 2 a) λa f j=>b7 2 f a λa
 f k=>bd f (bW ec [(0,2,e),(2,2,a)]) λa e f=>dx 4 d a e λ_ a e=>dX [0,1,3,0,8,31,63] [g,h,i,j,k,f,e] <| bB b a [bf 4 a d]
theorem af5{O:bo}(h:O 172=none):bz O funcs types 172 (cN NN):=.cN h (bn Tryz.func172 aA) λ_ _ _ _=>aA
def Ik(c:bt)(n:Nat)(a:V)(b:S):ax:=
 b0 45 a b λa d=>bQ [(.bool false),.af] 43 d λd e=>hv 2 a λf=>br 1 f e λf=>cr f λf=>ay .eql f (ab 0) λf=>aw (λg h=>hn 2 (an
 g) 2 h λi=>bq 2 (aD g) i h λ_ h=>bB b h [bf 2 h (aD g)]) λg=>aW f ( cX c 202 [] e λf h=>bq 2 d f h λ_ f=>bB b f [bf 2 f d]) ( g [a,d]
 e)
theorem Ve{O:bo}(h:O 179=none):bz O funcs types 179 (cN Ik):=.cN h (bn Tryz.func179 aA) λ_ _ _ _=>aA
def Il(c:bt)(n:Nat)(a b:V)(d:S):ax:=
 b0 43 a d λa e=>b0 43 b e λb e=>bQ ec 45 e λe f=>br 1 b f λg=>cr g λg=>ay .eql g (ab 0) λg=>az g false (a6 1 a) λh=>az g false
 (cZ f h) λh=>az g false (fP h) λh=>az g false (bH .eql cD h (ab 0)) λh=>aF (di g (.bool true) h) λg=>aw (λh i=>bP 2 i (an h) λj=>
 bP 2 i (aD h) λk=>cX c 159 [j,k] i λi j=>bQ [(.bool false),.af] 43 j λj k=>bq 2 j i k λ_ i=>bP 2 i j λk=>dO c 158 [k] i λi k=>aF
 (un .not i) λi=>aw (λl m=>bP 2 m (an l) λo=>bP 2 m (aD l) λp=>cX c 198 [o,p] m λm o=>bq 4 (aU l) m o λ_ m=>bB d m [bf 4 m (aU
 l)]) λl=>aW i ( bP 2 k (an h) λi=>bP 2 k j λm=>cX c 203 [i,m] k λi m=>aF (dS 0 i) λo=>aF (dS 1 i) λ_=>bq 2 (an h) o m λ_
 i=>bP 2 i (aD h) λm=>bP 2 i j λj=>cX c 203 [m,j] i λi j=>aF (dS 0 i) λm=>aF (dS 1 i) λ_=>bq 2 (aD h) m j λ_ i=>l (fT h) i)
 ( l (fT h) k)) λh=>aW g ( aF (bW ec []) λg=>bq 4 e g f λ_ g=>bB d g [bf 4 g e]) ( h [a,b,e] f)
theorem Vf{O:bo}(h:O 180=none):bz O funcs types 180 (bh Il):=.bh h (bn Tryz.func180 aA) λ_ _ _ _ _=>aA
def Im(c:bt)(n:Nat)(a b:V)(d:S):ax:=
 b0 43 a d λa e=>b0 43 b e λb e=>bQ [(.bool false),.af] 43 e λe f=>br 1 a f λg=>br 1 b f λh=>cr g λi=>ay .eql i (ab 1) λi=>az
 i true (some h) λj=>az i true (fP j) λj=>az i true (bH .eql cD j (ab 1)) λj=>aF (di i j (.bool false)) λi=>aw (λj k=>cr (an j) λl=>
 cr (aD j) λm=>ay .add l m λl=>bZ (c6 k (eV types 22 l l (aN k))) λk l=>cr (an j) λm=>aw (λo p=>br 0 (an o) p λq=>br 0
 (aD o) p λr=>aF (bH .neq (aJ.get types 4) q r) λq=>cX c 192 [q,(aU o)] p λp q=>bq 2 (bm o) p q λ_ p=>bB d p [bf 2 p (bm o)]) λo=>cT
 n (λp q r=>ay .lss (an q) (aD q) λs=>aw (λt u=>aw (λv w=>ay .add (an v) (ab 1) λx=>p (x::zc v) w) λp=>eG 1 (aU t) (an t) u
 λv=>cr (bm t) λw=>aw (λx y=>cr (dd x) λz=>ay .add (an x) z λz=>hV 1 (mn x) z λz=>bq 1 z (aD x) y λ_ y=>p [(aU x),(bm
 x),(bY x),(dd x),(eS x),(ik x),(mn x),(oe x)] y) λp=>cT n (λx y z=>ay .lss (an y) (aD y) λA=>aw (λB aQ=>aw (λcB F=>ay .add
 (an cB) (ab 1) λG=>x (G::aa0 cB) F) λx=>eG 1 (bm B) (aD B) aQ λcB=>ay .add (dd B) (aD B) λF=>eG 1 (nth B 12) F aQ λF=>ay .mul (bY
 B) cB λcB=>ay .add F cB λcB=>ay .add cB (an B) λcB=>ay .quo cB (ab 1000000000) λF=>ay .add (dd B) (aD B) λG=>ay .mul F (ab 1000000000) λH
 =>ay .sub cB H λcB=>hV 1 (nth B 12) G λG=>bq 1 G cB aQ λ_ aQ=>x [(aD B),(aU B),(bm B),(bY B),(dd B),F,(eS B),(ik B),(mn B),(oe B),
 (nth B 10),(nth B 11),(nth B 12),(nth B 13)] aQ) λx=>aW A ( x [(dd y),(an y),(aD y),(aU y),(bm y),(bY y),(eS y),(ik y),(mn y),(oe y),
 (nth y 10),(nth y 11),(nth y 12),(nth y 13)] z) ( p [(bY y),(dd y),(eS y),(ik y),(mn y),(oe y),(nth y 10),(nth y 11),(nth y 12),(nth y 13)] z)) [(ab
 0),w,(bm t),v,(an t),(ab 0),(an t),(aD t),(aU t),(bm t),(bY t),(dd t),(eS t),(ik t)] u) λp=>aW s ( p (AD q) r) ( o [(bY q),
 (dd q),(eS q),(ik q)] r)) [(ab 0),m,(an j),(aD j),(aU j),(bm j),k,(bY j)] l) λj=>aW i ( bd f (a6 0 a) λi k l=>dQ k i λi k m=>
 bd k (a6 0 b) λk o p=>dQ o k λk o q=>bd o (bH .neq (aJ.get types 4) i k) λi k o=>dD k g λk r s=>bd r (dW 1 k (ab 0)) λk r t=>dQ r k λk
 r u=>dp (ga none r (eT (some (cp.cc k)) r (mc .u64 k))) λk r v=>dD r h λr w x=>bd w (dW 1 r (ab 0)) λr w y=>dQ w r λr w z=>dp (ga
 none w (eT (some (cp.cc r)) w (mc .u64 r))) λr w A=>bd w (bH .mul (aJ.get types 226) k r) λk r w=>bS c 194 [i,k] r λi k r=>dx 2 e i k λ_ i k=>
 dX [0,1,0,4,15,0,32,96,224,0,512,1536,3584,8160,16383,32767] [l,m,p,q,o,s,t,u,v,x,y,z,A,w,r,k] <| bB d i [bf 2 i e]) ( j [g,h,a,b,e] f)
theorem Vg{O:bo}(h:O 181=none):bz O funcs types 181 (bh Im):=.bh h (bn Tryz.func181 aA) λ_ _ _ _ _=>aA
def Ir(c:bt)(n:Nat)(a b:V)(d:S):ax:=
 b0 43 a d λa e=>b0 43 b e λb e=>aw (λf g=>br 1 (an f) g λh=>br 1 (aD f) g λf=>dO c 200 [h,f] g λf g=>cY d g f) λf=>br 0 a e
 λg=>br 0 b e λh=>aF (bH .neq (aJ.get types 4) g h) λg=>az g true (a6 0 a) λh=>az g true (cZ e h) λh=>aF (di g h (.bool false)) λg=>aw
 (λh i=>f (iX h) i) λf=>aW g ( cY d e (ab (-1))) ( br 0 a e λg=>br 0 b e λh=>aF (bH .neq (aJ.get types 4) g h) λg=>aw (λh i=>f (iX
 h) i) λf=>aW g ( cY d e (ab 1)) ( br 0 a e λg=>aw (λh i=>f (iX h) i) λf=>aW g ( br 1 b e λg=>br 1 a e λh=>dO c 200 [g,h] e λg
 h=>cY d h g) ( f [a,b] e)))
theorem Vk{O:bo}(h:O 185=none):bz O funcs types 185 (bh Ir):=.bh h (bn Tryz.func185 aA) λ_ _ _ _ _=>aA
def Iu(c:bt)(n:Nat)(a:V)(b:S):ax:=
 cr a λd=>aw (λ_ e=>bB b e [some (ab 0),some (.bool false)]) λe=>ay .eql d (ab 0) λf=>aw (λ_ g=>e [] g) λe=>aW f ( bB b b [some (ab 0),
 some (.bool true)]) ( ay .eql d (ab 1) λf=>aw (λ_ g=>e [] g) λe=>aW f ( eG 1 a (ab 0) b λf=>bB b b [some f,some (.bool true)]) ( ay .eql d (ab
 2) λd=>aw (λ_ f=>e [] f) λe=>aW d ( eG 1 a (ab 1) b λd=>ay .mul d (ab 1000000000) λd=>eG 1 a (ab 0) b λa=>ay .add d a λa=>bB b
 b [some a,some (.bool true)]) ( e [] b)))
theorem Vn{O:bo}(h:O 193=none):bz O funcs types 193 (cN Iu):=.cN h (bn Tryz.func193 aA) λ_ _ _ _=>aA
def BD(c:bt)(n:Nat)(a b:V)(d:S):ax:=
 bQ [(.bool false),.af] 43 d λe f=>bQ [(.bool false),.af] 43 f λf g=>dO c 193 [a] g λg h=>aF (dS 0 g) λi=>aF (dS 1 g) λg=>aw (λj k=>
 dO c 200 (iX j) k λk l=>ay .lss k (ab 0) λk=>aw (λm o=>cr (aD m) λp=>ay .eql p (ab 1) λp=>aw (λq r=>dO c 219 (iX q) r λr s
 =>aF (dS 0 r) λt=>aF (dS 1 r) λr=>cX c 192 [(.bool false),t] s λs t=>cX c 192 [(.bool false),r] t λr t=>bq 2 (aU q) s t λ_ s=>bq 2 (bm
 q) r s λ_ r=>bB d r [bf 2 r (aU q),bf 2 r (bm q)]) λq=>aW p ( eG 1 (aD m) (ab 0) o λp=>dO c 218 [(an m),p] o λp r=>aF (dS 0 p) λ
 s=>aF (dS 1 p) λp=>cX c 192 [(.bool false),s] r λr s=>aF (mc .u64 p) λp=>cX c 194 [(.bool false),p] s λp s=>bq 2 (aU m) r s λ_ r=>bq
 2 (bm m) p r λ_ p=>bB d p [bf 2 p (aU m),bf 2 p (bm m)]) ( q (gA m) o)) λm=>aW k ( aF (bW [(.bool false),.af] []) λk=>cX c 192 [(.bool
 false),(an j)] l λo p=>bq 2 (aU j) k p λ_ k=>bq 2 (bm j) o k λ_ k=>bB d k [bf 2 k (aU j),bf 2 k (bm j)]) ( m (gA j) l)) λj=>aW g (
 dO c 193 [b] h λg k=>aF (dS 0 g) λl=>aF (dS 1 g) λg=>aw (λm o=>j (gA m) o) λm=>aW g ( dD k i λg o p=>dD o l λo q r=>bd q (bH .quo
 cD g o) λg o q=>dp (ga none o (eT (some (cp.cc g)) o (mc .u64 g))) λg o s=>bS c 194 [(.bool false),g] o λg o t=>dD o i λi o u=>dD o l λl
 o v=>bd o (bH .rem cD i l) λi l o=>dp (ga none l (eT (some (cp.cc i)) l (mc .u64 i))) λi l w=>bS c 194 [(.bool false),i] l λi l x=>dx 2 e g
 l λ_ g l=>dx 2 f i g λ_ g i=>dX [0,0,3,7,15,0,0,96,224,511,1023,2047] [p,r,q,s,t,u,v,o,w,x,l,i] <| bB d g [bf 2 g e,bf 2 g f]) ( m [a,b,e,
 f] k)) ( j [a,b,e,f] h)
theorem Np{O:bo}(h:O 195=none):bz O funcs types 195 (bh BD):=.bh h (bn Tryz.func195 aA) λ_ _ _ _ _=>aA
def Ix(c:bt)(n:Nat)(a:V)(b:S):ax:=
 b0 43 a b λa d=>bQ [(.bool false),.af] 43 d λd e=>br 0 a e λf=>aF (un .not f) λf=>az f true (a6 1 a) λg=>az f true (cZ e g) λg=>az
 f true (fP g) λg=>az f true (bH .gtr cD g (ab 0)) λg=>aF (di f g (.bool false)) λf=>hv 0 a λg=>bq 1 g f e λ_ e=>bP 2 e a λa=>bq 2
 d a e λ_ a=>bB b a [bf 2 a d]
theorem Vq{O:bo}(h:O 197=none):bz O funcs types 197 (cN Ix):=.cN h (bn Tryz.func197 aA) λ_ _ _ _=>aA
def IB(c:bt)(n:Nat)(a b:V)(d:S):ax:=
 cr a λe=>bZ (c6 d (eV types 22 e e (aN d))) λe f=>bZ (c6 f (zQ g3 e a (aN f))) λ_ a=>cr e λf=>aw (λg h=>cY d h (an g)) λ
 d=>cT n (λg h i=>ay .lss (an h) (aD h) λj=>aw (λk l=>aw (λm o=>ay .add (an m) (ab 1) λp=>g (p::kL m) o) λg=>cr (aU k) λ
 m=>ay .lss (an k) m λm=>aw (λo p=>eG 1 (bY o) (an o) p λq=>ay .lss q (ab 0) λq=>aw (λr s=>g (gA r) s) λg=>aW q ( eG 1 (bY
 o) (an o) p λq=>ay .add q (ab 1000000000) λq=>hV 1 (bY o) (an o) λr=>bq 1 r q p λ_ q=>ay .add (an o) (ab 1) λr=>eG 1 (bY o) r q
 λs=>ay .sub s (ab 1) λs=>hV 1 (bY o) r λr=>bq 1 r s q λ_ q=>g (mO o) q) ( g (mO o) p)) λg=>aW m ( eG 1 (bm k) (an k) l λm=>
 eG 1 (aU k) (an k) l λo=>ay .sub m o λm=>hV 1 (bm k) (an k) λo=>bq 1 o m l λ_ m=>g [(an k),(an k),(aD k),(aU k),(bm k)] m)
 ( g [(an k),(an k),(aD k),(aU k),(bm k)] l)) λg=>aW j ( g (gA h) i) ( d [(bm h)] i)) [(ab 0),f,b,e] a
theorem Vu{O:bo}(h:O 201=none):bz O funcs types 201 (bh IB):=.bh h (bn Tryz.func201 aA) λ_ _ _ _ _=>aA
def NQ(c:bt)(n:Nat)(a b:V)(d:S):ax:=
 cr a λe=>bZ (c6 d (eV types 22 e e (aN d))) λe f=>cr a λg=>ay .sub g (ab 1) λg=>aw (λh i=>bB d i [some (an h),some (aD h)])
 λd=>cT n (λh i j=>ay .geq (an i) (ab 0) λk=>aw (λl m=>aw (λo p=>ay .sub (an o) (ab 1) λq=>h (q::mO o) p) λh=>ay .mul (an
 l) (ab 1000000000) λo=>eG 1 (aU l) (aD l) m λp=>ay .add o p λo=>ay .quo o (bm l) λp=>ay .rem o (bm l) λo=>hV 1 (bY l) (aD l) λ
 q=>bq 1 q p m λ_ m=>h [(aD l),(aU l),(bm l),(bY l),o] m) λh=>aW k ( h [(bY i),(an i),(aD i),(aU i),(bm i)] j) ( d [(bm i),(bY
 i)] j)) [g,a,b,e,(ab 0)] f
theorem agb{O:bo}(h:O 218=none):bz O funcs types 218 (bh NQ):=.bh h (bn Tryz.func218 aA) λ_ _ _ _ _=>aA
def IP(c:bt)(n:Nat)(a:V)(b:S):ax:=
 b0 47 a b λa d=>bQ ec 45 d λd e=>hn 4 a 4 e λa=>bq 4 d a e λ_ a=>bB b a [bf 4 a d]
theorem VH{O:bo}(h:O 451=none):bz O funcs types 451 (cN IP):=.cN h (bn Tryz.func451 aA) λ_ _ _ _=>aA
end Go.ah.X
