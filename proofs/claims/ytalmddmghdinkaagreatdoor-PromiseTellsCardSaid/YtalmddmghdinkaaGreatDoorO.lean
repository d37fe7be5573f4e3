/-
  A part: lemmas; conditions: those that each names.
-/
import Derived.Test.YtalmddmghdinkaaGreatDoorN
set_option linter.all false
set_option linter.deprecated false
noncomputable section
set_option maxRecDepth 100000
namespace Go.ah.X
open Go Go.ah Go.Proofs Go.Proofs.dI
def NT(c:bt)(n:Nat)(a b d e f g:V)(h:S):ax:=
 cX c 5 [a] h λa i=>bQ Da 28 i λi j=>bq 4 i a j λ_ a=>bP 4 a i λj=>cX c 6 [j,b] a λa b=>bQ [(ab 0),.af,.af,.af] 33 b λb j=>
 bq 4 b a j λ_ a=>cX c 7 [d] a λa d=>bQ lx 37 d λd j=>bq 5 d a j λ_ a=>cX c 7 [e] a λa e=>bQ lx 37 e λe j=>bq 5 e a j λ_ a=>bP
 5 a d λj=>cX c 8 [j,f,g] a λa j=>bQ lx 37 j λj k=>bq 5 j a k λ_ a=>aF (bW lx [(2,1,(ab 20))]) λk=>bQ lx 37 a λa l=>bq 5 a
 k l λ_ k=>aw (λl m=>bP 5 m (an l) λo=>bP 5 m (aD l) λp=>bP 5 m (aU l) λq=>bP 5 m (aU l) λr=>ij c 8 [r,(dd l),(bY l)] m λ
 m r=>bP 5 r (bm l) λs=>bP 5 r (bm l) λt=>ij c 8 [t,(bY l),(dd l)] r λr t=>ha 5 6 37 (cC 6 lx) [(0,5,o),(5,5,p),(10,5,q),(15,5,
 m),(20,5,s),(25,5,r)] t λm o=>dO c 9 [(dd l),(ab 30)] o λo p=>ha 1 2 3 (cC 2 [(ab 0)]) [(0,1,o),(1,1,(dd l))] p λo p=>aw (λ_ q=>dO
 c 21 [] q λq r=>cY h r q) λq=>cT n (λr s t=>cr (bY s) λu=>ay .lss (an s) u λu=>aw (λv w=>aw (λx y=>ay .add (an x) (ab 1) λ
 z=>r (z::mO x) y) λr=>bP 4 w (aD v) λx=>bP 4 w (aU v) λy=>ke 5 (bY v) (an v) w λz=>ij c 12 [z] w λw z=>ij c 11 [x,y,w] z λ
 w x=>bP 4 x (aD v) λy=>bP 4 x (aU v) λz=>ke 5 (bY v) (an v) x λA=>ij c 13 [y,z,A] x λx y=>aF (bH .neq (aJ.get types 4) w x) λw=>
 aw (λx z=>aw (λA B=>aw (λaQ cB=>r (iY aQ) cB) λr=>cT n (λaQ cB F=>cr (dd cB) λG=>ay .lss (an cB) G λG=>aw (λH I=>aw (λe4 K=>ay .add
 (an e4) (ab 1) λL=>aQ (L::rG e4) K) λaQ=>ke 5 (dd H) (aD H) I λe4=>ij c 18 [e4] I λI e4=>az I true (some (dd H)) λK=>az I true (some (an
 H)) λL=>az I true (dW 5 K L) λK=>az I true (bf 5 e4 K) λK=>bZ (gJ I true (cJ c true false (.fn 18 [] []) [K] e4) e4) λe4 K=>aF (di I e4 (.bool false))
 λI=>az I true (some (dd H)) λe4=>az I true (some (aD H)) λL=>az I true (dW 5 e4 L) λe4=>az I true (bf 5 K e4) λe4=>bZ (gJ I true (cJ c true
 false (.fn 12 [] []) [e4] K) K) λe4 K=>az I true (some (dd H)) λL=>az I true (some (an H)) λM=>az I true (dW 5 L M) λL=>az I true (bf 5 K L) λL
 =>bZ (gJ I true (cJ c true false (.fn 12 [] []) [L] K) K) λK L=>bZ (gJ I true (cJ c true false (.fn 19 [] []) [e4,K] L) L) λe4 K=>az I true (some (dd
 H)) λL=>az I true (some (aD H)) λM=>az I true (dW 5 L M) λL=>az I true (bf 5 K L) λL=>az I true (some (dd H)) λM=>az I true (some (an H))
 λN=>az I true (dW 5 M N) λM=>az I true (bf 5 K M) λM=>bZ (gJ I true (cJ c true false (.fn 20 [] []) [L,M] K) K) λK L=>az I true (bH .neq cD e4
 K) λe4=>aF (di I e4 (.bool false)) λI=>aw (λe4 K=>aQ (kd e4) K) λaQ=>aW I ( cY h L (.bool false)) ( aQ (kd H) L)) λaQ=>aW G ( aQ (kd cB) F) ( r
 (rG cB) F)) ((ab 0)::iY A) B) λr=>cT n (λA B aQ=>ay .lss (an B) (ab 2) λcB=>aw (λF G=>aw (λH I=>ay .add (an H) (ab 1) λe4=>A (e4
 ::rG H) I) λA=>dD G (dd F) λG H I=>dD H (aD F) λH e4 K=>bd e4 (dW 5 G H) λG H e4=>b7 5 H G λG H L=>bS c 12 [G] H λG H M=>dD H (bY
 F) λH N O=>dD N (an F) λN P Q=>bd P (dW 1 H N) λH N P=>dQ N H λH N R=>bS c 14 [G,H] N λG H N=>dD H G λG H S=>bd H (dS 0 G) λH T b3
 =>bd T (dS 1 G) λG T V=>lT lx 55 T λT W X=>dx 5 T H W λ_ H W=>dD H G λG H bJ=>dX [0,0,3,7,15,0,0,96,224,511,1023,2047,2047,0,12287,32767]
 [I,K,e4,L,M,O,Q,P,R,N,S,b3,V,X,W,bJ] <| dD H (dd F) λH I e4=>dD I (aD F) λI K L=>bd K (dW 5 H I) λH I K=>b7 5 I H λH I M=>dD I (bY
 F) λI N O=>dD N (an F) λN P Q=>bd P (dW 1 I N) λI N P=>dQ N I λI N R=>bS c 15 [H,I] N λH I N=>dD I H λH I S=>bd I (dS 0 H) λI b3 V
 =>bd b3 (dS 1 H) λH b3 W=>lT lx 37 b3 λb3 X bJ=>dx 5 b3 I X λ_ I X=>dD I H λH I ak=>dX [0,0,3,7,0,0,48,112,255,511,1023,1023,0,6143,16383] [e4,
 L,K,M,O,Q,P,R,N,S,V,W,bJ,X,ak] <| aF (bH .neq (aJ.get types 58) G H) λG=>az G false (bf 5 I T) λH=>bZ (gJ G false (cJ c true false (.fn 17 [] [])
 [H] I) I) λH I=>az G false (bf 5 I b3) λe4=>bZ (gJ G false (cJ c true false (.fn 16 [] []) [H,e4] I) I) λH I=>az G false (un .not H) λH=>aF (di
 G (.bool true) H) λG=>aw (λH e4=>A (kd H) e4) λA=>aW G ( cY h I (.bool false)) ( A (kd F) I)) λA=>aW cB ( A (kd B) aQ) ( r (rG B) aQ)) ((ab 0)::
 iY x) z) λr=>aW w ( cY h y (.bool false)) ( r (iY v) y)) λh=>aW u ( h (iY s) t) ( q [] t)) [(ab 0),(eS l),(ik l),o,m] p) λh=>cT n (λ
 l m o=>br 1 (ik m) o λp=>cr p λp=>ay .lss (an m) p λp=>aw (λq r=>aw (λs t=>ay .add (an s) (ab 1) λu=>l (u::LG s) t) λl=>
 dO c 9 [(eS q),(ab 64)] r λr s=>aF (mc .u64 (an q)) λt=>ay .shr r t λr=>ay .rem r (ab 2) λr=>ay .eql r (ab 1) λr=>aw (λt u=>l
 (xG t) u) λl=>aW r ( br 3 (bY q) s λr=>ha 1 1 3 (cC 1 [(ab 0)]) [(0,1,(an q))] s λt u=>iW g3 3 r t u λr t=>hv 3 (bY q) λu=>bq
 1 u r t λ_ r=>bd r (a6 4 (bY q)) λr t u=>dQ t r λr t v=>b7 4 t (ik q) λt w x=>b7 4 w (mn q) λw y z=>dD y (an q) λy A B=>bS c 10
 [t,w,y] A λt w y=>kM w (some []) (some []) (fl 16 1 49 (cC 1 mo) [(0,16,t)] (aN w)) λt w A=>kM w (some ([r,t].flatMap cp.cc)) (some (cp.cc r))
 (fD qR 49 r t (aN w)) λr t w=>bd t (a6 4 (bY q)) λt aQ cB=>dx 1 t r aQ λ_ r t=>dX [0,1,0,0,0,28,60,127,255,511] [u,v,x,z,B,y,A,w,cB,t] <|
 l (xG q) r) ( l (xG q) s)) λl=>aW p ( l (xG m) o) ( h (LG m) o)) [(ab 0),d,e,j,a,f,g,i,b] k
theorem agh{O:bo}(h:O 3=none):bz O funcs types 3 (uk NT):=.uk h (bn Tryz.func3 aA) λ_ _ _ _ _ _ _ _ _=>aA
def N6(c:bt)(n:Nat)(a b:V)(d:S):ax:=
 b0 28 a d λa e=>bQ [(ab 0),.af,.af,.af] 33 e λe f=>bP 4 f a λg=>cX c 35 [g] f λf g=>bQ [(ab 0),.af,.af,.af] 33 g λg h=>bq
 4 g f h λ_ f=>cX c 29 [b,(ab 0),(ab 9)] f λf h=>hv 0 g λi=>bq 1 i f h λ_ f=>cX c 29 [b,(ab 1),(ab 5)] f λf h=>ay .eql f (ab 0) λ
 f=>az f true (a6 1 a) λi=>az f true (cZ h i) λi=>az f true (fP i) λi=>az f true (bH .gtr cD i (ab 2)) λi=>aF (di f i (.bool false)) λf
 =>aw (λi j=>aw (λk l=>bP 4 l (an k) λm=>bP 4 l (aU k) λo=>dO c 38 [m,o] l λl m=>aw (λo p=>bP 4 p (an o) λq=>bq 4 (aD o) q
 p λ_ p=>bB d p [bf 4 p (aD o)]) λd=>cT n (λo p q=>br 0 (aD p) q λr=>cr r λr=>ay .lss (an p) r λr=>aw (λs t=>aw (λu v=>ay .add
 (an u) (ab 1) λw=>o (w::rG u) v) λo=>ay .mul (ab 2) (an s) λu=>ay .add (ab 3) u λu=>dO c 29 [(aU s),u,(ab 20)] t λt u=>eG 1
 (bm s) (an s) u λv=>az v true (some t) λw=>az v true (bH .lss cD w (ab 12)) λw=>aF (di v w (.bool false)) λv=>aw (λw x=>o (kd w) x) λ
 o=>aW v ( bd u (a6 2 (bY s)) λv w x=>dQ w v λv w y=>dD w (an s) λw z A=>dD z t λt z B=>bd z (bH .sub cD t (ab 5)) λt z aQ=>bS c 28
 [t,(ab 4)] z λt z cB=>bd z (dW 4 v w) λv w z=>dx 4 v t w λ_ t v=>dX [0,1,0,0,8,24,63,127] [x,y,A,B,aQ,cB,z,v] <| o (kd s) t) ( o (kd s) u))
 λo=>aW r ( o (kd p) q) ( d [(bY p),(dd p)] q)) [(ab 0),(an k),(aD k),l,(aU k),(bm k)] m) λd=>cT n (λk l m=>br 0 (aD l) m λo
 =>cr o λo=>ay .lss (an l) o λo=>aw (λp q=>aw (λr s=>ay .add (an r) (ab 1) λt=>k (t::mO r) s) λk=>ay .mul (ab 2) (an p) λr
 =>ay .add (ab 2) r λr=>dO c 29 [(aU p),r,(ab 12)] q λq r=>ay .lss q (ab 4) λs=>aw (λt u=>k (iY t) u) λk=>aW s ( bP 4 r (bm p)
 λs=>cX c 36 [s] r λs t=>bQ [(ab 0),.af,.af,.af] 33 t λt u=>bq 4 t s u λ_ s=>bd s (a6 1 t) λs u v=>dQ u s λs u w=>dD u (an p)
 λu x y=>dD x q λx z A=>bd z (bH .mul cD (ab 2) x) λx z B=>bd z (bH .sub cD x (ab 3)) λx z aQ=>dD z q λq z cB=>bd z (bH .rem cD q (ab 2))
 λq z F=>bd z (bH .add cD (ab 2) q) λq z G=>bS c 28 [x,q] z λq x z=>bd x (dW 4 s u) λs u x=>dx 4 s q u λ_ q s=>dX [0,1,0,0,8,24,0,64,
 192,504,1023,2047] [v,w,y,A,B,aQ,cB,F,G,z,x,s] <| bP 4 q (aD p) λs=>bP 4 q t λu=>dO c 37 [s,u] q λq s=>aF (bH .eql (aJ.get types 58) q (ab
 0)) λq=>aw (λu v=>k (iY u) v) λu=>aW q ( bP 4 s t λq=>bq 4 (bm p) q s λ_ q=>u (iY p) q) ( u (iY p) s)) ( k (iY p) r)) λk=>aW o
 ( k (iY l) m) ( d (mO l) m)) ((ab 0)::gA i) j) λd=>aW f ( br 3 g h λf=>br 1 a h λi=>cr i λi=>ay .sub i (ab 1) λi=>hV 1 f i λf
 =>bq 1 f (.bool false) h λ_ f=>d [a,b,g,e] f) ( d [a,b,g,e] h)
theorem agw{O:bo}(h:O 6=none):bz O funcs types 6 (bh N6):=.bh h (bn Tryz.func6 aA) λ_ _ _ _ _=>aA
def Ns(c:bt)(n:Nat)(a:V)(b:S):ax:=
 b0 37 a b λa d=>bQ lx 55 d λd e=>br 0 a e λf=>br 1 a e λg=>br 2 a e λh=>br 3 a e λi=>aF (bW lx [(0,1,f),(1,1,g),(2,1,h),
 (3,1,i)]) λf=>bQ lx 55 e λe g=>bq 5 e f g λ_ f=>aw (λg h=>bP 5 h (an g) λi=>bq 5 (aD g) i h λ_ h=>bB b h [bf 5 h (aD g)]) λb
 =>cT n (λg h i=>br 4 (aD h) i λj=>cr j λj=>ay .lss (an h) j λj=>aw (λk l=>aw (λm o=>ay .add (an m) (ab 1) λp=>g (p::kL
 m) o) λg=>br 4 (aU k) l λm=>br 4 (aD k) l λo=>hV 16 o (an k) λo=>hn 0 o 8 l λo=>br 4 (aD k) l λp=>hV 16 p (an k) λp=>hn
 8 p 8 l λp=>aF (bW mo [(0,8,o),(8,8,p)]) λo=>ha 16 1 108 (cC 1 mo) [(0,16,o)] l λl o=>iW DM 108 m l o λl m=>hv 4 (aU k) λo=>
 bq 1 o l m λ_ l=>g (gA k) l) λg=>aW j ( g (gA h) i) ( b [(aU h),(bm h)] i)) [(ab 0),a,e,d] f
theorem afK{O:bo}(h:O 12=none):bz O funcs types 12 (cN Ns):=.cN h (bn Tryz.func12 aA) λ_ _ _ _=>aA
def HT(c:bt)(n:Nat)(a b:V)(d:S):ax:=
 b0 55 a d λa e=>bQ lx 55 e λe f=>aw (λg h=>hv 2 (aD g) λi=>bq 1 i (an g) h λ_ h=>bd h (a6 3 (aD g)) λh i j=>dQ i h λh i k=>
 bS c 45 [h] i λh i l=>bd i (a6 4 (aD g)) λi m o=>dQ m i λi m p=>bS c 46 [i] m λi m q=>bd m (a6 3 (aD g)) λm r s=>dx 1 m h r λ_ h m=>
 bd h (a6 4 (aD g)) λh r t=>dx 1 h i r λ_ h i=>dX [0,1,3,0,8,31,31,127,255,511] [j,k,l,o,p,q,s,m,t,i] <| bP 5 h (aD g) λi=>bq 5 (aU
 g) i h λ_ h=>bB d h [bf 5 h (aU g),some (ab 0)]) λg=>bP 5 f a λh=>dO c 41 [h] f λf h=>aF (un .not f) λf=>aw (λi j=>g (fT i) j) λ
 g=>aW f ( aF (bW lx []) λf=>bq 5 e f h λ_ f=>bB d f [bf 5 f e,some (ab 1)]) ( br 1 a h λf=>ay .lss b f λf=>az f false (some b) λi=>
 az f false (a6 2 a) λj=>az f false (cZ h j) λj=>az f false (bH .gtr cD i j) λi=>aF (di f (.bool true) i) λf=>aw (λi j=>g (fT i) j) λg
 =>aW f ( aF (bW lx []) λf=>bq 5 e f h λ_ f=>bB d f [bf 5 f e,some (ab 5)]) ( g [b,a,e] h))
theorem UP{O:bo}(h:O 14=none):bz O funcs types 14 (bh HT):=.bh h (bn Tryz.func14 aA) λ_ _ _ _ _=>aA
def Is(c:bt)(n:Nat)(a b:V)(d:S):ax:=
 b0 55 a d λa e=>b0 55 b e λb e=>bd e (a6 1 a) λe f g=>dQ f e λe f h=>bd f (a6 1 b) λf i j=>dQ i f λf i k=>dp (ga none i (eT (some
 ([e,f].flatMap cp.cc)) i (mq true [e,f]))) λe f i=>bd f (a6 2 a) λf l m=>dQ l f λf l o=>bd l (a6 2 b) λl p q=>dQ p l λl p r=>dp (ga
 none p (eT (some ([f,l].flatMap cp.cc)) p (mq false [f,l]))) λf l p=>dD l e λe l s=>dD l f λf l t=>dX [0,1,0,4,15,0,32,0,128,480,31,2047]
 [g,h,j,k,i,m,o,q,r,p,s,t] <| ay .leq f e λg=>az g false (a6 4 a) λa=>az g false (cZ l a) λa=>az g false (n2 50 [] [b]) λb=>bZ (gJ g false
 (cJ c false false (.fn 49 [] []) [a,b] l) l) λa b=>aF (di g (.bool true) a) λa=>aw (λg h=>cY d h (an g)) λg=>aW a ( cY d b e) ( g [f] b)
theorem Vl{O:bo}(h:O 19=none):bz O funcs types 19 (bh Is):=.bh h (bn Tryz.func19 aA) λ_ _ _ _ _=>aA
def NP(c:bt)(n:Nat)(a b:V)(d:S):ax:=
 b0 37 a d λa e=>b0 37 b e λb e=>br 1 a e λf=>br 1 b e λg=>aF (mq true [f,g]) λf=>br 2 a e λg=>br 2 b e λh=>aF (mq false [g,
 h]) λg=>aw (λh i=>aF (mq true (iX h)) λh=>cY d i h) λh=>cT n (λi j k=>br 4 (aD j) k λl=>cr l λl=>ay .lss (an j) l λl=>
 aw (λm o=>aw (λp q=>ay .add (an p) (ab 1) λr=>i (r::mO p) q) λi=>aw (λp q=>i (iY p) q) λi=>cT n (λp q r=>br 4 (bm q) r λ
 s=>cr s λs=>ay .lss (an q) s λs=>aw (λt u=>aw (λv w=>ay .add (an v) (ab 1) λx=>p (x::rG v) w) λp=>br 4 (aU t) u λv=>ke
 16 v (aD t) u λv=>br 4 (bm t) u λw=>ke 16 w (an t) u λw=>ij c 52 [v,w] u λu v=>aw (λw x=>p (kd w) x) λp=>aW u ( cY d v (bY
 t)) ( p (kd t) v)) λd=>aW s ( d (kd q) r) ( i (rG q) r)) ((ab 0)::iY m) o) λd=>aW l ( d (iY j) k) ( h [(bm j),(bY j)] k)) [(ab 0),a,b,
 f,g] e
theorem af9{O:bo}(h:O 20=none):bz O funcs types 20 (bh NP):=.bh h (bn Tryz.func20 aA) λ_ _ _ _ _=>aA
def Wf(c:bt)(n:Nat)(a b:V)(d:S):ax:=
 cr a λe=>cr b λf=>ay .neq e f λe=>aw (λf g=>aw (λ_ h=>cY d h (.bool true)) λh=>cT n (λi j k=>cr (aD j) λl=>ay .lss (an
 j) l λl=>aw (λm o=>aw (λp q=>ay .add (an p) (ab 1) λr=>i (r::lS p) q) λi=>eG 1 (aD m) (an m) o λp=>eG 1 (aU m) (an m) o λ
 q=>aF (bH .neq (aJ.get types 5) p q) λp=>aw (λq r=>i (fT q) r) λi=>aW p ( cY d o (.bool false)) ( i (fT m) o)) λi=>aW l ( i (fT j) k) ( h
 [] k)) ((ab 0)::iX f) g) λf=>aW e ( cY d d (.bool false)) ( f [a,b] d)
theorem agd{O:bo}(h:O 23=none):bz O funcs types 23 (bh Wf):=.bh h (bn Tryz.func23 aA) λ_ _ _ _ _=>aA
def Wg(c:bt)(n:Nat)(a b:V)(d:S):ax:=
 cr a λe=>aF (mq false [e,b]) λb=>aF (jn 1 a none (some b) none) λa=>iW x0 5 .af a d λa b=>cY d b a
theorem agf{O:bo}(h:O 26=none):bz O funcs types 26 (bh Wg):=.bh h (bn Tryz.func26 aA) λ_ _ _ _ _=>aA
def NW(c:bt)(n:Nat)(a b:V)(d:S):ax:=
 b0 28 a d λa e=>bQ Da 28 e λe f=>br 0 a f λg=>cr g λg=>bd f (a6 0 a) λf h i=>dQ h f λf h j=>bS c 28 [(ab 1),(ab 2)] h λh k l
 =>bS c 34 [(ab (-1))] k λk m o=>bS c 34 [(ab 3)] m λm p q=>bd p (bW [(.bool false),.af,(.bool false),.af,(.bool false),.af,(.bool false),.af,
 (.bool false),(.bool false),.af,(.bool false),.af,(.bool false),.af,(.bool false),.af] [(0,4,h),(8,1,(.bool true)),(9,4,k),(13,4,m)]) λh k m=>kM k
 (some []) (some []) (fl 17 1 130 (cC 1 [(.bool false),.af,(.bool false),.af,(.bool false),.af,(.bool false),.af,(.bool false),(.bool false),.af,(.bool false),.af,
 (.bool false),.af,(.bool false),.af]) [(0,17,h)] (aN k)) λh k p=>kM k (some ([f,h].flatMap cp.cc)) (some (cp.cc f)) (fD G4 130 f h (aN k)) λf
 h k=>bd h (a6 0 a) λh r s=>dx 1 h f r λ_ f h=>dX [0,1,0,4,12,28,60,127,255,511] [i,j,l,o,q,m,p,k,s,h] <| dO c 30 [(ab 1)] f λf h=>aF
 (dS 0 f) λi=>aF (dS 1 f) λ_=>dO c 30 [(ab 5)] h λf h=>aF (dS 0 f) λj=>aF (dS 1 f) λ_=>bd h (a6 1 a) λf h k=>dQ h f λf h l=>
 dD h i λh i m=>bS c 34 [(ab 22)] i λi o p=>bd o (bW gG [(0,4,i)]) λi o q=>dD o g λo r s=>bS c 34 [(ab 1)] r λr t u=>bd t (bW [(ab
 0),(.bool false),.af,(.bool false),.af,(.bool false),.af,(.bool false),.af,(.bool false),.af,(.bool false),.af] [(0,1,o),(1,4,r)]) λo r t=>kM r (some
 []) (some []) (fl 13 1 132 (cC 1 [(ab 0),(.bool false),.af,(.bool false),.af,(.bool false),.af,(.bool false),.af,(.bool false),.af,(.bool false),.af])
 [(0,13,o)] (aN r)) λo r v=>dD r b λr w x=>bd w (bH .rem cD r (ab 3)) λr w y=>bS c 28 [r,(ab 2)] w λr w z=>bd w (bW [.af,(.bool false),.af,
 (.bool false),.af,(.bool false),.af,(.bool false),.af,.af,(.bool false),.af,(.bool false),.af,(.bool false),.af,(.bool false),.af] [(0,1,h),(1,8,i),
 (9,1,o),(10,4,r)]) λh i o=>kM i (some []) (some []) (fl 18 1 88 (cC 1 [.af,(.bool false),.af,(.bool false),.af,(.bool false),.af,(.bool false),.af,.af,
 (.bool false),.af,(.bool false),.af,(.bool false),.af,(.bool false),.af]) [(0,18,h)] (aN i)) λh i r=>kM i (some ([f,h].flatMap cp.cc)) (some (cp.cc
 f)) (fD G5 88 f h (aN i)) λf h i=>bd h (a6 1 a) λh w A=>dx 1 h f w λ_ f h=>dX [0,1,0,0,8,0,8,104,232,0,512,1608,4092,8188,16383,32767,65535]
 [k,l,m,p,q,s,u,t,v,x,y,z,o,r,i,A,h] <| bd f (a6 1 a) λf h i=>dQ h f λf h k=>dD h j λh j l=>bS c 34 [(ab 32)] j λj m o=>bS c 34 [(ab
 2)] m λm p q=>bd p (bW gG [(0,4,j),(4,4,m)]) λj m p=>dD m g λg m r=>dD m b λm s t=>bd s (bH .rem cD m (ab 2)) λm s u=>bd s (bH .add
 cD (ab 1) m) λm s v=>bS c 28 [m,(ab 2)] s λm s w=>bd s (bW [(ab 0),(.bool false),.af,(.bool false),.af,(.bool false),.af,(.bool false),.af,(.bool
 false),.af,(.bool false),.af] [(0,1,g),(5,4,m)]) λg m s=>kM m (some []) (some []) (fl 13 1 132 (cC 1 [(ab 0),(.bool false),.af,(.bool false),.af,(.bool
 false),.af,(.bool false),.af,(.bool false),.af,(.bool false),.af]) [(0,13,g)] (aN m)) λg m x=>dD m b λm y z=>bd y (bH .rem cD m (ab 4)) λm y A
 =>bS c 28 [m,(ab 2)] y λm y B=>dD y b λb y aQ=>bd y (bH .rem cD b (ab 3)) λb y cB=>bS c 28 [b,(ab 2)] y λb y F=>bd y (bW [.af,(.bool false),.af,
 (.bool false),.af,(.bool false),.af,(.bool false),.af,.af,(.bool false),.af,(.bool false),.af,(.bool false),.af,(.bool false),.af] [(0,1,h),(1,8,j),
 (9,1,g),(10,4,m),(14,4,b)]) λb g h=>kM g (some []) (some []) (fl 18 1 88 (cC 1 [.af,(.bool false),.af,(.bool false),.af,(.bool false),.af,(.bool false),.af,.af,
 (.bool false),.af,(.bool false),.af,(.bool false),.af,(.bool false),.af]) [(0,18,b)] (aN g)) λb g j=>kM g (some ([f,b].flatMap cp.cc)) (some (cp.cc
 f)) (fD G5 88 f b (aN g)) λb f g=>bd f (a6 1 a) λf m y=>dx 1 f b m λ_ b f=>dX [0,1,0,0,8,24,0,0,128,384,920,2008,4056,0,8192,26520,0,65536,
 255896,524284,1048572,2097151,4194303,8388607] [i,k,l,o,q,p,r,t,u,v,w,s,x,z,A,B,aQ,cB,F,h,j,g,y,f] <| bP 4 b a λa=>bq 4 e a b λ_ a=>e5 true
 d a [bf 4 a e]
theorem agk{O:bo}(h:O 32=none):bz O funcs types 32 (bh NW):=.bh h (bn Tryz.func32 aA) λ_ _ _ _ _=>aA
def IH(c:bt)(n:Nat)(a:V)(b:S):ax:=
 aw (λd e=>cY b e (an d)) λd=>cT n (λe f g=>ay .mul (ab 4) (an f) λh=>cr (aD f) λi=>ay .lss h i λh=>az h true (some (an f))
 λi=>az h true (bH .lss cD i (ab 12)) λi=>aF (di h i (.bool false)) λh=>aw (λi j=>aw (λk l=>ay .add (an k) (ab 1) λm=>e (m::lS k)
 l) λe=>ay .mul (ab 4) (aD i) λk=>cX c 82 [(aU i),k] j λj k=>bQ gG 47 k λk l=>bq 8 k j l λ_ j=>ay .mul (ab 4) (aD i) λl=>ay .add
 l (ab 2) λl=>cX c 82 [(aU i),l] j λj l=>bQ gG 47 l λl m=>bq 8 l j m λ_ j=>bd j (a6 0 k) λj m o=>b7 4 m j λj m p=>bd m (a6 0 l) λ
 m q r=>b7 4 q m λm q s=>bd q (a6 0 l) λq t u=>b7 4 t q λq t v=>bS c 83 [m,q] t λm q t=>bS c 33 [j,m] q λj m q=>bd m (a6 4 k) λm w x=>
 b7 4 w m λm w y=>bd w (a6 4 l) λw z A=>b7 4 z w λw z B=>bd z (a6 4 l) λl z aQ=>b7 4 z l λl z cB=>bS c 83 [w,l] z λl w z=>bS c 33 [m,l]
 w λl m w=>bd m (bW gG [(0,4,j),(4,4,l)]) λj l m=>lT gG 47 l λl F G=>dx 8 l j F λ_ j F=>dX [0,1,0,4,0,16,60,127,0,256,0,1024,0,4096,
 15615,32767,65535,0,262143] [o,p,r,s,u,v,t,q,x,y,A,B,aQ,cB,z,w,m,G,F] <| bP 8 j k λk=>bP 8 j l λl=>aF (bW mo [(0,8,k),(8,8,l)]) λk
 =>ha 16 1 49 (cC 1 mo) [(0,16,k)] j λj k=>iW qR 49 (an i) j k λj k=>e [(aD i),(aU i),j] k) λe=>aW h ( e [(aU f),(an f),(aD f)]
 g) ( d [(aU f)] g)) [(ab 0),a,.af] b
theorem VA{O:bo}(h:O 39=none):bz O funcs types 39 (cN IH):=.cN h (bn Tryz.func39 aA) λ_ _ _ _=>aA
def IK(c:bt)(n:Nat)(a b d:V)(e:S):ax:=
 b0 28 a e λa f=>b0 33 b f λb f=>bQ mo 108 f λf g=>bd g (a6 1 a) λg h i=>dQ h g λg h j=>dD h d λh k l=>bd k (dW 18 g h) λg h k=>
 bd h (a6 0 g) λg h m=>dQ h g λg h o=>b7 4 h a λa h p=>bd h (a6 1 b) λb h q=>dQ h b λb h r=>dD h d λd h s=>bS c 90 [a,b,d] h λa b d
 =>bd b (bW gG []) λb h t=>bd h (bW gG []) λh u v=>bS c 89 [g,a,b,h,(ab 0)] u λa b g=>dx 16 f a b λ_ a b=>dX [0,1,0,7,15,31,0,0,
 128,0,960,0,0,8191,16383] [i,j,l,k,m,o,p,q,r,s,d,t,v,g,b] <| bB e a [bf 16 a f]
theorem VD{O:bo}(h:O 43=none):bz O funcs types 43 (hA IK):=.hA h (bn Tryz.func43 aA) λ_ _ _ _ _ _=>aA
def IM(c:bt)(n:Nat)(a:V)(b:S):ax:=
 aF (bH .eql (aJ.get types 22) a .af) λd=>aw (λe f=>ha 1 0 3 (cC 0 [(ab 0)]) [] f λf g=>iW g3 3 f (an e) g λe f=>cY b f e) λe=>aW d
 ( bB b b [some .af]) ( e [a] b)
theorem VF{O:bo}(h:O 45=none):bz O funcs types 45 (cN IM):=.cN h (bn Tryz.func45 aA) λ_ _ _ _=>aA
def Wj(c:bt)(n:Nat)(a b:V)(d:S):ax:=
 cr a λe=>cr b λf=>ay .geq e f λe=>az e true (some a) λa=>az e true (some b) λf=>az e true (fP f) λf=>az e true (jn 1 a none (some f)
 none) λa=>az e true (some b) λb=>bZ (gJ e true (cJ c false true (.fn 107 [] []) [a,b] d) d) λa b=>aF (di e a (.bool false)) λa=>cY d b a
theorem agx{O:bo}(h:O 63=none):bz O funcs types 63 (bh Wj):=.bh h (bn Tryz.func63 aA) λ_ _ _ _ _=>aA
def I3(c:bt)(n:Nat)(a b:V)(d:S):ax:=
 b0 45 a d λa e=>b0 45 b e λb e=>hn 0 a 2 e λf=>bP 4 e b λg=>ij c 69 [g] e λe g=>ij c 68 [f,e] g λe f=>hn 0 b 2 f λb=>bP 4 f a
 λa=>ij c 69 [a] f λa f=>ij c 68 [b,a] f λa b=>ij c 128 [e,a] b λa b=>cY d b a
theorem VU{O:bo}(h:O 78=none):bz O funcs types 78 (bh I3):=.bh h (bn Tryz.func78 aA) λ_ _ _ _ _=>aA
def Of(c:bt)(n:Nat)(a b d:V)(e:S):ax:=
 b0 28 a e λa f=>b0 33 b f λb f=>b0 99 d f λd f=>bQ gG 47 f λf g=>bQ gG 47 g λg h=>br 3 b h λi=>br 0 d h λj=>eG 1 i j h λi
 =>aF (un .not i) λi=>aw (λj k=>hn 10 (aU j) 8 k λl=>bQ gG 47 k λk m=>bq 8 k l m λ_ l=>br 1 (aU j) l λm=>ay .geq m (ab 0) λm
 =>aw (λo p=>bd p (a6 2 (aU o)) λp q r=>b7 8 q p λp q s=>b7 4 q (an o) λq t u=>bd t (a6 1 (aD o)) λt v w=>dQ v t λt v x=>bd v (a6
 0 (aU o)) λv y z=>dQ y v λv y A=>bS c 75 [q,t,v] y λq t v=>bS c 121 [p,q] t λp q t=>b7 8 q (bm o) λq y B=>dx 8 (bY o) p y λ_ p y=>
 dx 8 (dd o) q p λ_ p q=>dD p (.bool true) λp aQ cB=>dX [0,1,0,0,8,0,32,124,255,0,511,2047,4095] [r,s,u,w,x,z,A,v,t,B,y,q,cB] <| e5 true e aQ
 [bf 8 aQ (bY o),bf 8 aQ (dd o),some p]) λo=>aW m ( br 3 (aD j) l λm=>br 1 (aU j) l λp=>eG 1 m p l λm=>aF (un .not m) λm=>aw (λp
 q=>b7 8 q (bm p) λq r s=>b7 4 r (an p) λr t u=>bd t (a6 1 (aD p)) λt v w=>dQ v t λt v x=>bd v (a6 1 (aU p)) λv y z=>dQ y v λv
 y A=>bS c 75 [r,t,v] y λr t v=>bS c 121 [q,r] t λq r t=>dx 8 (bm p) q r λ_ q r=>dX [0,0,0,4,0,16,62,127,255] [s,u,w,x,z,A,v,t,r] <| o
 (kd p) q) λp=>aW m ( aF (bW gG []) λm=>aF (bW gG []) λq=>bq 8 (bm j) m l λ_ m=>bq 8 (bY j) q m λ_ m=>e5 true e m [bf 8 m
 (bm j),bf 8 m (bY j),some (.bool false)]) ( p [(an j),(aD j),(aU j),k,(bm j),(bY j)] l)) ( o [(an j),(aD j),(aU j),k,(bm j),(bY j)]
 l)) λj=>aW i ( aF (bW gG []) λi=>aF (bW gG []) λk=>bq 8 f i h λ_ i=>bq 8 g k i λ_ i=>e5 true e i [bf 8 i f,bf 8 i g,some (.bool
 false)]) ( j [a,b,d,f,g] h)
theorem agH{O:bo}(h:O 79=none):bz O funcs types 79 (hA Of):=.hA h (bn Tryz.func79 aA) λ_ _ _ _ _ _=>aA
def I4(c:bt)(n:Nat)(a b:V)(d:S):ax:=
 bQ gG 47 d λe f=>cX c 29 [a,b,(ab 4096)] f λf g=>cX c 129 [f] g λf g=>ay .add b (ab 1) λb=>cX c 29 [a,b,(ab 4096)] g λa b=>cX c
 129 [a] b λa b=>aF (bW gG [(0,4,f),(4,4,a)]) λa=>bq 8 e a b λ_ a=>bB d a [bf 8 a e]
theorem VV{O:bo}(h:O 82=none):bz O funcs types 82 (bh I4):=.bh h (bn Tryz.func82 aA) λ_ _ _ _ _=>aA
def I7(c:bt)(n:Nat)(a b:V)(d:S):ax:=
 b0 108 a d λa e=>b0 108 b e λb e=>bQ mo 108 e λe f=>bQ gG 199 f λf g=>bQ gG 199 g λg h=>bP 4 h (.ptr 0 0) λi=>aw (λj k=>aF
 (nR 2 4 (an j) (ab 0)) λl=>bP 4 k l λl=>aF (nR 2 4 (an j) (ab 1)) λm=>bP 4 k m λm=>aF (bW gG [(0,4,l),(4,4,m)]) λl=>aF (nR
 2 4 (aD j) (ab 0)) λm=>bP 4 k m λm=>aF (nR 2 4 (aD j) (ab 1)) λo=>bP 4 k o λo=>aF (bW gG [(0,4,m),(4,4,o)]) λm=>aF (bW
 mo [(0,8,l),(8,8,m)]) λl=>bq 16 (aU j) l k λ_ k=>bB d k [bf 16 k (aU j)]) λd=>cT n (λj k l=>ay .lss (an k) (ab 2) λm=>aw (λo
 p=>aw (λq r=>ay .add (an q) (ab 1) λs=>j (s::qa q) r) λj=>aF (C5 2 2 (aD o) (an o)) λq=>bQ [.pB,.pB] 203 p λp r=>bq 2 p q
 r λ_ q=>dD q (an o) λq r s=>bd r (a6 0 p) λr t u=>dQ t r λr t v=>bd t (a6 0 (aU o)) λt w x=>b7 8 w t λt w y=>dp (ga none w (et
 c r [t] w)) λr t w=>bd t (a6 0 p) λt z A=>dQ z t λt z B=>bd z (a6 0 (bm o)) λz aQ cB=>b7 8 aQ z λz aQ F=>dp (ga none aQ (et c t [z] aQ)) λ
 t z aQ=>kM z (some []) (some []) (fl 4 1 45 (cC 1 ec) [(0,4,t)] (aN z)) λt z G=>bS c 132 [r,t] z λr t z=>dD t r λr t H=>bd t (dS 0 r) λt I e4=>
 bd I (dS 1 r) λ_ r I=>bd r (nR 2 4 (bY o) q) λq r K=>dx 4 q t r λ_ q r=>dX [0,0,2,0,8,30,0,64,0,256,1022,2046,4094,8190,16382,16382,32767,
 98303] [s,u,v,x,y,w,A,B,cB,F,aQ,G,z,H,e4,I,K,r] <| dD q (an o) λq r s=>bd r (a6 0 p) λr t u=>dQ t r λr t v=>bd t (a6 8 (aU o)) λt w x
 =>b7 8 w t λt w y=>dp (ga none w (et c r [t] w)) λr t w=>bd t (a6 0 p) λp t z=>dQ t p λp t A=>bd t (a6 8 (bm o)) λt B aQ=>b7 8 B t λ
 t B cB=>dp (ga none B (et c p [t] B)) λp t B=>kM t (some []) (some []) (fl 4 1 45 (cC 1 ec) [(0,4,p)] (aN t)) λp t F=>bS c 132 [r,p] t λp r t=>
 dD r p λp r G=>bd r (dS 0 p) λ_ r H=>bd r (dS 1 p) λp r I=>bd r (nR 2 4 (dd o) q) λq r e4=>dx 4 q p r λ_ p q=>dX [0,0,2,0,8,30,0,64,
 0,256,1022,2046,4094,8190,16382,16382,65535,131071] [s,u,v,x,y,w,z,A,aQ,cB,B,F,t,G,H,I,e4,q] <| j (pA o) p) λj=>aW m ( j (pA k) l) ( d [(bY k),
 (dd k),(eS k)] l)) [(ab 0),i,a,b,f,g,e] h
theorem VY{O:bo}(h:O 87=none):bz O funcs types 87 (bh I7):=.bh h (bn Tryz.func87 aA) λ_ _ _ _ _=>aA
def Wm(c:bt)(n:Nat)(a b:V)(d:S):ax:=
 ay .lss b (ab 0) λe=>aw (λf g=>aF (JK g (aD f)) λh=>cr (aD f) λi=>ay .sub h i λh=>ay .sub (an f) h λh=>ay .gtr h (ab 0) λ
 i=>aw (λj k=>cY d k (an j)) λj=>aW i ( aF (JK g (aD f)) λi=>aF (jn 1 (aD f) none (some i) none) λi=>bZ (c6 g (OF x0 5 i h (aN g)))
 λh i=>cr (aD f) λk=>aF (jn 1 h none (some k) none) λh=>j [h] i) ( j [(aD f)] g)) λf=>aW e ( none) ( f [b,a] d)
theorem agP{O:bo}(h:O 99=none):bz O funcs types 99 (bh Wm):=.bh h (bn Tryz.func99 aA) λ_ _ _ _ _=>aA
def HA(c:bt)(n:Nat)(a b:V)(d:S):ax:=
 b0 43 a d λa e=>b0 43 b e λb e=>bQ [(.bool false),.af] 43 e λe f=>br 1 a f λa=>cX c 116 [(.bool false),a] f λa f=>bQ [(.bool false),.af]
 43 f λf g=>bq 2 f a g λ_ a=>br 1 b a λb=>cX c 116 [(.bool false),b] a λa b=>bQ [(.bool false),.af] 43 b λb g=>bq 2 b a g λ_ a=>aw (λg
 h=>bP 2 h (an g) λi=>bq 2 (aD g) i h λ_ h=>bB d h [bf 2 h (aD g)]) λg=>cT n (λh i j=>br 1 (an i) j λk=>cr k λk=>ay .gtr k
 (ab 0) λk=>aw (λl m=>aw (λo p=>h (fT o) p) λh=>br 1 (aD l) m λo=>cr o λo=>ay .leq o (ab 2) λo=>az o true (a6 1 (an l)) λp
 =>az o true (cZ m p) λp=>az o true (fP p) λp=>az o true (bH .leq cD p (ab 2)) λp=>aF (di o p (.bool false)) λo=>aw (λp q=>bP 2 q (aD
 p) λr=>bP 2 q (an p) λs=>cX c 113 [r,s] q λq r=>aF (dS 0 q) λs=>aF (dS 1 q) λq=>bQ [(.bool false),.af] 43 r λr t=>bQ [(.bool false),.af]
 43 t λt u=>bq 2 r s u λ_ r=>bq 2 t q r λ_ q=>bP 2 q (an p) λr=>bq 2 (aD p) r q λ_ q=>bP 2 q t λr=>bq 2 (an p) r q λ_ q=>h (fT
 p) q) λh=>aW o ( br 1 (aD l) m λo=>dO c 161 [o] m λo p=>br 1 (an l) p λq=>dO c 161 [q] p λp q=>aw (λr s=>cX c 67 [(an r)] s λ
 s t=>bq 2 (aD r) s t λ_ s=>bB d s [bf 2 s (aD r)]) λd=>cT n (λr s t=>ay .gtr (an s) (ab 0) λu=>aw (λv w=>aw (λx y=>r (fT x) y)
 λr=>ay .rem (an v) (aD v) λx=>r (x::lS v) w) λr=>aW u ( r [(aD s),(an s),(aU s)] t) ( d (lS s) t)) [p,o,(aU l)] q) ( h (fT l) m))
 λd=>aW k ( d (fT i) j) ( g (lS i) j)) [b,f,e] a
theorem Uw{O:bo}(h:O 112=none):bz O funcs types 112 (bh HA):=.bh h (bn Tryz.func112 aA) λ_ _ _ _ _=>aA
def HF(c:bt)(n:Nat)(a b:V)(d:S):ax:=
 aw (λe f=>cY d f (an e)) λe=>cT n (λf g h=>cr (aU g) λi=>ay .lss (aD g) i λi=>az i false (some (aD g)) λj=>az i false (some (bm
 g)) λk=>az i false (fP k) λk=>az i false (bH .lss cD j k) λj=>aF (di i (.bool true) j) λi=>az i false (some (an g)) λj=>az i false (bH .gtr
 cD j (ab 0)) λj=>aF (di i (.bool true) j) λi=>aw (λj k=>aw (λl m=>ay .add (an l) (ab 1) λo=>f [(aD l),o,(aU l),(bm l),(bY l)]
 m) λf=>dO c 163 [(bm j),(aU j)] k λk l=>dO c 163 [(bY j),(aU j)] l λl m=>ay .add k l λk=>ay .add k (an j) λk=>ay .rem k (ab 1000000000)
 λl=>ha 1 1 3 (cC 1 [(ab 0)]) [(0,1,l)] m λl m=>iW g3 3 (aD j) l m λl m=>ay .quo k (ab 1000000000) λk=>f [(aU j),k,(bm j),(bY j),l]
 m) λf=>aW i ( f [(an g),(bY g),(aD g),(aU g),(bm g)] h) ( e [(bY g)] h)) [(ab 0),(ab 0),a,b,.af] d
theorem UB{O:bo}(h:O 117=none):bz O funcs types 117 (bh HF):=.bh h (bn Tryz.func117 aA) λ_ _ _ _ _=>aA
def HG(c:bt)(n:Nat)(a b:V)(d:S):ax:=
 cr a λe=>cr b λf=>ay .lss e f λe=>aw (λf g=>cr (an f) λh=>cr (aD f) λi=>ay .gtr h i λh=>aw (λi j=>cr (an i) λk=>
 ay .sub k (ab 1) λk=>aw (λ_ l=>cY d l (ab 0)) λl=>cT n (λm o p=>ay .geq (an o) (ab 0) λq=>aw (λr s=>aw (λt u=>ay .sub (an t)
 (ab 1) λv=>m (v::lS t) u) λm=>eG 1 (aD r) (an r) s λt=>eG 1 (aU r) (an r) s λu=>ay .lss t u λt=>aw (λu v=>eG 1 (aD u) (an
 u) v λw=>eG 1 (aU u) (an u) v λx=>ay .gtr w x λw=>aw (λx y=>m (fT x) y) λm=>aW w ( cY d v (ab 1)) ( m (fT u) v)) λm=>aW t ( cY
 d s (ab (-1))) ( m (fT r) s)) λm=>aW q ( m (fT o) p) ( l [] p)) (k::iX i) j) λi=>aW h ( cY d g (ab 1)) ( i (iX f) g)) λf=>aW e ( cY d d
 (ab (-1))) ( f [a,b] d)
theorem UC{O:bo}(h:O 118=none):bz O funcs types 118 (bh HG):=.bh h (bn Tryz.func118 aA) λ_ _ _ _ _=>aA
def HL(c:bt)(n:Nat)(a b:V)(d:S):ax:=
 b0 45 a d λa e=>bQ ec 45 e λe f=>bQ ec 45 f λf g=>b7 4 g a λg h i=>b7 4 h a λa h j=>lT ec 45 h λh k l=>lT ec 45 k λk m o=>dx
 4 h g m λ_ g m=>dx 4 k a g λ_ a g=>dX [0,0,0,0,13,31] [i,j,l,o,m,g] <| cr b λg=>aw (λi j=>b7 4 j (an i) λj l m=>b7 4 l (aD i) λ
 l o p=>dx 4 (aU i) j o λ_ j o=>dx 4 (bm i) l j λ_ j l=>dX [0,0,1,7] [m,p,o,l] <| bB d j [bf 4 j (aU i),bf 4 j (bm i)]) λd=>cT n (λ
 i j l=>ay .lss (an j) (aD j) λm=>aw (λo p=>aw (λq r=>ay .add (an q) (ab 1) λs=>i (s::qa q) r) λi=>ke 4 (aU o) (an o) p λq=>
 bQ ec 45 p λp r=>bq 4 p q r λ_ q=>bP 4 q p λr=>bP 4 q (bm o) λs=>dO c 147 [r,s] q λq r=>ay .lss q (ab 0) λq=>aw (λs t=>bP 4
 t (an s) λu=>bP 4 t (dd s) λv=>dO c 147 [u,v] t λt u=>ay .gtr t (ab 0) λt=>aw (λv w=>i (pA v) w) λi=>aW t ( bP 4 u (an s) λ
 t=>bq 4 (dd s) t u λ_ t=>i (zc s) t) ( i (zc s) u)) λi=>aW q ( bP 4 r p λq=>bq 4 (bm o) q r λ_ q=>i (p::pA o) q) ( i (p::pA o) r))
 λi=>aW m ( i (pA j) l) ( d [(bm j),(bY j),(dd j),(eS j)] l)) [(ab 0),g,b,h,k,e,f] a
theorem UH{O:bo}(h:O 132=none):bz O funcs types 132 (bh HL):=.bh h (bn Tryz.func132 aA) λ_ _ _ _ _=>aA
def HQ(c:bt)(n:Nat)(a b:V)(d:S):ax:=
 dO c 173 [a] d λe f=>dO c 173 [b] f λf g=>aw (λh i=>aw (λj k=>ay .lss (an j) (aD j) λl=>aw (λm o=>ay .gtr (an m) (aD m) λm=>
 aw (λ_ p=>cY d p (ab 0)) λp=>aW m ( cY d o (ab 1)) ( p [] o)) λm=>aW l ( cY d k (ab (-1))) ( m (iX j) k)) λj=>aW (an h) ( cY d i (ab
 1)) ( j (lS h) i)) λh=>aW e ( aw (λ_ e=>cY d e (ab (-1))) λe=>aW f ( cY d g (ab 0)) ( e [] g)) ( h [f,a,b] g)
theorem UM{O:bo}(h:O 137=none):bz O funcs types 137 (bh HQ):=.bh h (bn Tryz.func137 aA) λ_ _ _ _ _=>aA
def HW(c:bt)(n:Nat)(a b:V)(d:S):ax:=
 bQ ec 45 d λe f=>cX c 182 [a] f λa f=>cX c 182 [b] f λb f=>cX c 180 [a,b] f λa b=>bq 4 e a b λ_ a=>bB d a [bf 4 a e]
theorem US{O:bo}(h:O 142=none):bz O funcs types 142 (bh HW):=.bh h (bn Tryz.func142 aA) λ_ _ _ _ _=>aA
def H2(c:bt)(n:Nat)(a b:V)(d:S):ax:=
 b0 45 a d λa e=>b0 45 b e λb e=>bP 4 e a λf=>ij c 177 [f] e λe f=>bP 4 f b λg=>ij c 177 [g] f λf g=>ay .neq e f λh=>az h false
 (some e) λi=>az h false (bH .eql cD i (ab 0)) λi=>aF (di h (.bool true) i) λh=>aw (λi j=>hn 0 (aD i) 2 j λk=>bP 4 j (an i) λl=>ij
 c 179 [l] j λj l=>ij c 181 [k,j] l λj k=>hn 0 (an i) 2 k λl=>bP 4 k (aD i) λi=>ij c 179 [i] k λi k=>ij c 181 [l,i] k λi k=>ij c
 185 [j,i] k λi j=>cY d j i) λi=>aW h ( dO c 182 [e] g λe h=>dO c 182 [f] h λf h=>dO c 185 [e,f] h λe f=>cY d f e) ( i [b,a] g)
theorem UY{O:bo}(h:O 147=none):bz O funcs types 147 (bh H2):=.bh h (bn Tryz.func147 aA) λ_ _ _ _ _=>aA
def H9(c:bt)(n:Nat)(a b:V)(d:S):ax:=
 cr a λe=>ay .leq e (ab 2) λe=>az e true (some b) λf=>az e true (fP f) λf=>az e true (bH .leq cD f (ab 2)) λf=>aF (di e f (.bool false))
 λe=>aw (λf g=>cr (an f) λh=>bZ (c6 g (eV types 22 h h (aN g))) λg h=>cr (an f) λi=>ay .sub i (ab 1) λi=>aw (λj k=>bB
 d k [some (an j),some (aD j)]) λj=>cT n (λk l m=>ay .geq (an l) (ab 0) λo=>aw (λp q=>aw (λr s=>ay .sub (an r) (ab 1) λt=>k (t::
 mO r) s) λk=>eG 1 (aU p) (aD p) q λr=>ha 1 1 3 (cC 1 [(ab 0)]) [(0,1,r)] q λq r=>iW g3 3 q (an p) r λq r=>cX c 116 [(.bool false),q]
 r λq r=>bQ [(.bool false),.af] 43 r λr s=>bq 2 r q s λ_ q=>br 1 r q λr=>dO c 118 [r,(bm p)] q λq s=>ay .lss q (ab 0) λq=>aw (λt
 u=>aw (λv w=>cX c 196 [(bY v),(aD v)] w λw x=>cX c 119 [(an v),w] x λw x=>cX c 116 [(.bool false),w] x λw x=>bQ [(.bool false),.af] 43
 x λx y=>bq 2 x w y λ_ w=>hV 1 (dd v) (aU v) λy=>bq 1 y (aD v) w λ_ w=>br 1 x w λx=>k [(aU v),(bm v),(bY v),(dd v),x] w) λ
 k=>cT n (λv w x=>ay .lss (aU w) (an w) λy=>aw (λz A=>aw (λB aQ=>v (pA B) aQ) λv=>ay .add (aU z) (an z) λB=>ay .add B (ab 1) λ
 B=>ay .quo B (ab 2) λB=>dO c 196 [(dd z),B] A λA aQ=>dO c 118 [A,(aD z)] aQ λA aQ=>ay .leq A (ab 0) λA=>aw (λcB F=>v (pA cB) F) λv
 =>aW A ( v [(an z),(aD z),B,(bm z),(bY z),(dd z),(eS z)] aQ) ( ay .sub B (ab 1) λA=>v (A::qa z) aQ)) λv=>aW y ( v (pA w) x) ( k (qa
 w) x)) (pA t) u) λk=>aW q ( k [(ab 0),r,(ab 0),(aD p),(aU p),(bm p),(bY p)] s) ( k [(ab 999999999),r,(ab 0),(aD p),(aU p),(bm p),
 (bY p)] s)) λk=>aW o ( k [(bY l),(an l),(aD l),(aU l),(bm l)] m) ( j [(bm l),(bY l)] m)) [i,(an f),(aD f),g,.af] h) λf=>aW e
 ( cX c 161 [a] d λe g=>cX c 161 [b] g λg h=>ay .quo e g λe=>cX c 67 [e] h λe g=>bQ [(.bool false),.af] 43 g λg h=>bq 2 g e h λ_ e=>cX
 c 161 [a] e λe h=>cX c 161 [b] h λh i=>ay .rem e h λe=>cX c 67 [e] i λe h=>bQ [(.bool false),.af] 43 h λh i=>bq 2 h e i λ_ e=>br 1 g e
 λg=>br 1 h e λh=>bB d e [some g,some h]) ( f [a,b] d)
theorem U5{O:bo}(h:O 162=none):bz O funcs types 162 (bh H9):=.bh h (bn Tryz.func162 aA) λ_ _ _ _ _=>aA
def NH(c:bt)(n:Nat)(a:V)(b:S):ax:=
 b0 43 a b λa d=>bP 2 d a λe=>ij c 67 [(ab 9223372036854775807)] d λd f=>ij c 128 [e,d] f λd e=>ay .gtr d (ab 0) λd=>az d false (bf 2 e
 a) λf=>bZ (gJ d false (cJ c true false (.fn 67 [] []) [(ab (-9223372036854775808))] e) e) λe g=>bZ (gJ d false (cJ c true false (.fn 128 [] []) [f,e] g)
 g) λe f=>az d false (bH .lss cD e (ab 0)) λe=>aF (di d (.bool true) e) λd=>aw (λe g=>br 1 (an e) g λh=>cr h λh=>ay .sub h (ab 1)
 λh=>aw (λi j=>bB b j [some (an i),some (.bool true)]) λi=>cT n (λj k l=>ay .geq (an k) (ab 0) λm=>aw (λo p=>aw (λq r=>ay .sub (an
 q) (ab 1) λs=>j (s::lS q) r) λj=>br 0 (aU o) p λq=>aw (λr s=>j (fT r) s) λj=>aW q ( ay .mul (an o) (ab 1000000000) λq=>br 1
 (aU o) p λr=>eG 1 r (aD o) p λr=>ay .sub q r λq=>j [(aD o),(aU o),q] p) ( ay .mul (an o) (ab 1000000000) λq=>br 1 (aU o) p λr=>
 eG 1 r (aD o) p λr=>ay .add q r λq=>j [(aD o),(aU o),q] p)) λj=>aW m ( j [(aU k),(an k),(aD k)] l) ( i [(aU k)] l)) [h,(an e),(ab
 0)] g) λe=>aW d ( bB b f [some (ab 0),some (.bool false)]) ( e [a] f)
theorem afZ{O:bo}(h:O 166=none):bz O funcs types 166 (cN NH):=.cN h (bn Tryz.func166 aA) λ_ _ _ _=>aA
def NM(c:bt)(n:Nat)(a b:V)(d:S):ax:=
 b0 45 a d λa e=>b0 45 b e λb e=>bQ ec 45 e λe f=>bP 4 f b λg=>bP 4 f a λh=>dO c 78 [g,h] f λf g=>ay .gtr f (ab 0) λf=>aw (λ
 h i=>bP 4 i (an h) λj=>bq 4 (aD h) j i λ_ i=>bB d i [bf 4 i (aD h)]) λh=>aW f ( bP 4 g b λb=>bq 4 e b g λ_ b=>bB d b [bf 4 b e])
 ( h [a,e] g)
theorem af4{O:bo}(h:O 171=none):bz O funcs types 171 (bh NM):=.bh h (bn Tryz.func171 aA) λ_ _ _ _ _=>aA
def Ii(c:bt)(n:Nat)(a:V)(b:S):ax:=
 b0 45 a b λa d=>hn 0 a 2 d λa=>dO c 154 [a] d λa d=>cY b d a
theorem Vc{O:bo}(h:O 177=none):bz O funcs types 177 (cN Ii):=.cN h (bn Tryz.func177 aA) λ_ _ _ _=>aA
def Io(c:bt)(n:Nat)(a:V)(b:S):ax:=
 bQ [(.bool false),.af] 43 b λd e=>aF (mc .u64 a) λf=>ay .lss a (ab 0) λg=>aw (λh i=>ay .lss (an h) (ab 0) λj=>cX c 194 [j,(aD h)]
 i λi j=>bq 2 (aU h) i j λ_ i=>bB b i [bf 2 i (aU h)]) λb=>aW g ( aF (un .neg f) λg=>b [a,g,d] e) ( b [a,f,d] e)
theorem Vh{O:bo}(h:O 182=none):bz O funcs types 182 (cN Io):=.cN h (bn Tryz.func182 aA) λ_ _ _ _=>aA
def Iq(c:bt)(n:Nat)(a b:V)(d:S):ax:=
 cr a λe=>aw (λ_ f=>cY d f (ab (-1))) λf=>cT n (λg h i=>ay .lss (an h) (aD h) λj=>aw (λk l=>aw (λm o=>ay .add (an m) (ab 1)
 λp=>g (p::kL m) o) λg=>ke 2 (bm k) (an k) l λm=>bZ (cJ c false false (aU k) [m] l) λl m=>aw (λo p=>g (gA o) p) λg=>aW l ( cY
 d m (an k)) ( g (gA k) m)) λg=>aW j ( g (gA h) i) ( f [] i)) [(ab 0),e,b,a] d
theorem Vj{O:bo}(h:O 184=none):bz O funcs types 184 (bh Iq):=.bh h (bn Tryz.func184 aA) λ_ _ _ _ _=>aA
def Wc(c:bt)(n:Nat)(a b:V)(d:S):ax:=
 dO c 217 [a,b] d λa b=>ay .geq a (ab 0) λa=>cY d b a
theorem af7{O:bo}(h:O 190=none):bz O funcs types 190 (bh Wc):=.bh h (bn Tryz.func190 aA) λ_ _ _ _ _=>aA
def Wd(c:bt)(n:Nat)(a:V)(b:S):ax:=
 ay .lss a (ab 0) λd=>az d false (some a) λa=>az d false (bH .geq cD a (ab 1000000000)) λa=>aF (di d (.bool true) a) λa=>cY b b a
theorem af8{O:bo}(h:O 191=none):bz O funcs types 191 (cN Wd):=.cN h (bn Tryz.func191 aA) λ_ _ _ _=>aA
def Iy(c:bt)(n:Nat)(a b:V)(d:S):ax:=
 b0 43 a d λa e=>b0 43 b e λb e=>bQ ec 45 e λe f=>br 0 b f λg=>aw (λh i=>bP 2 i (aD h) λj=>dO c 158 [j] i λi j=>aw (λk l=>bP
 2 l (an k) λm=>bP 2 l (aD k) λo=>aF (bW ec [(0,2,m),(2,2,o)]) λm=>bq 4 (aU k) m l λ_ l=>bB d l [bf 4 l (aU k)]) λk=>aW i
 ( bP 2 j (an h) λi=>aF (bW ec [(0,2,i)]) λi=>bq 4 (aU h) i j λ_ i=>bB d i [bf 4 i (aU h)]) ( k (fT h) j)) λd=>aW g ( b7 2 f a λ
 g h i=>bS c 197 [g] h λg h j=>b7 2 h b λh k l=>bS c 197 [h] k λh k m=>dx 2 a g k λ_ g k=>dx 2 b h g λ_ g h=>dX [0,1,0,7,15,31] [i,j,l,
 m,k,h] <| d [a,b,e] g) ( d [a,b,e] f)
theorem Vr{O:bo}(h:O 198=none):bz O funcs types 198 (bh Iy):=.bh h (bn Tryz.func198 aA) λ_ _ _ _ _=>aA
end Go.ah.X
