/-
  A part: lemmas; conditions: those that each names.
-/
import Derived.Test.YtalmddmghdinkaaGreatDoorL
set_option linter.all false
set_option linter.deprecated false
noncomputable section
set_option maxRecDepth 100000
namespace Go.ah.X
open Go Go.ah Go.Proofs Go.Proofs.dI
def NO(c:bt)(n:Nat)(a:V)(b:S):ax:=
 b0 37 a b λa d=>br 3 a d λe=>cr e λe=>br 4 a d λf=>cr f λf=>ay .neq e f λe=>az e false (a6 1 a) λf=>az e false (cZ d f) λf=>
 az e false (a6 2 a) λg=>az e false (cZ d g) λg=>az e false (bH .gtr cD f g) λf=>aF (di e (.bool true) f) λe=>aw (λf g=>aw (λ_ h=>cY b
 h (.bool true)) λh=>cT n (λi j k=>br 3 (aD j) k λl=>cr l λl=>ay .lss (an j) l λl=>aw (λm o=>aw (λp q=>ay .add (an p) (ab 1)
 λr=>i [r,(aD p)] q) λi=>br 3 (aD m) o λp=>eG 1 p (an m) o λp=>ay .lss p (ab 0) λp=>az p false (some (an m)) λq=>az p false (bH .gtr
 cD q (ab 0)) λq=>az p false (some q) λq=>az q true (a6 3 (aD m)) λr=>az q true (cZ o r) λr=>az q true (some (an m)) λs=>az q true (dW 1
 r s) λr=>az q true (cZ o r) λr=>az q true (a6 3 (aD m)) λs=>az q true (cZ o s) λs=>az q true (some (an m)) λt=>az q true (bH .sub cD t
 (ab 1)) λt=>az q true (dW 1 s t) λs=>az q true (cZ o s) λs=>az q true (bH .leq cD r s) λr=>az p false (di q r (.bool false)) λq=>aF (di
 p (.bool true) q) λp=>aw (λq r=>i (iX q) r) λi=>aW p ( cY b o (.bool false)) ( i (iX m) o)) λi=>aW l ( i (iX j) k) ( h [] k)) [(ab 0),(an
 f)] g) λf=>aW e ( cY b d (.bool false)) ( f [a] d)
theorem af6{O:bo}(h:O 18=none):bz O funcs types 18 (cN NO):=.cN h (bn Tryz.func18 aA) λ_ _ _ _=>aA
def IF(c:bt)(n:Nat)(a b d:V)(e:S):ax:=
 ay .lss b (ab 0) λf=>az f false (some b) λg=>az f false (some a) λh=>az f false (fP h) λh=>az f false (bH .geq cD g h) λg=>aF (di f (.bool
 true) g) λf=>aw (λg h=>eG 1 (an g) (aD g) h λi=>dO c 9 [i,(aU g)] h λg h=>cY e h g) λg=>aW f ( cY e e (ab 0)) ( g [a,b,d] e)
theorem Vy{O:bo}(h:O 29=none):bz O funcs types 29 (hA IF):=.hA h (bn Tryz.func29 aA) λ_ _ _ _ _ _=>aA
def IG(c:bt)(n:Nat)(a b:V)(d:S):ax:=
 b0 45 a d λa e=>b0 45 b e λb e=>bQ ec 45 e λe f=>bd f (a6 0 a) λf g h=>b7 2 g f λf g i=>b7 4 g b λg j k=>bS c 69 [g] j λg j l=>bS
 c 68 [f,g] j λf g j=>lT [(.bool false),.af] 43 g λg m o=>dx 2 g f m λ_ f m=>dX [0,1,0,4,15,0,63] [h,i,k,l,j,o,m] <| bd f (a6 0 b) λf h i=>
 b7 2 h f λf h j=>b7 4 h a λh k l=>bS c 69 [h] k λh k m=>bS c 68 [f,h] k λf h k=>lT [(.bool false),.af] 43 h λh o p=>dx 2 h f o λ_ f o=>
 dX [0,1,0,4,15,0,63] [i,j,l,m,k,p,o] <| b7 2 f g λf g i=>b7 2 g h λg h j=>bS c 70 [f,g] h λf g h=>b7 4 g a λa g k=>bS c 69 [a] g λa g
 l=>b7 4 g b λb g m=>bS c 69 [b] g λb g o=>bS c 68 [a,b] g λa b g=>bS c 66 [f,a] b λa b f=>dx 4 e a b λ_ a b=>dX [0,0,3,0,15,0,63,127,
 255,511] [i,j,h,k,l,m,o,g,f,b] <| bB d a [bf 4 a e]
theorem Vz{O:bo}(h:O 33=none):bz O funcs types 33 (bh IG):=.bh h (bn Tryz.func33 aA) λ_ _ _ _ _=>aA
def IJ(c:bt)(n:Nat)(a b:V)(d:S):ax:=
 b0 108 a d λa e=>b0 108 b e λb e=>bP 16 e a λf=>bP 16 e b λb=>cX c 87 [f,b] e λb e=>bQ mo 108 e λe f=>bq 16 e b f λ_ b=>hv 0
 e λf=>hn 0 f 4 b λf=>hv 0 a λg=>hn 0 g 4 b λg=>dO c 88 [f,g] b λb f=>az b true (a6 0 e) λg=>az b true (a6 4 g) λg=>az b true (bf
 4 f g) λg=>az b true (a6 0 a) λh=>az b true (a6 4 h) λh=>az b true (bf 4 f h) λh=>bZ (gJ b true (cJ c false false (.fn 88 [] []) [g,h] f) f) λ
 f g=>aF (di b f (.bool false)) λb=>az b true (a6 8 e) λf=>az b true (a6 0 f) λf=>az b true (bf 4 g f) λf=>az b true (a6 8 a) λh=>az b
 true (a6 0 h) λh=>az b true (bf 4 g h) λh=>bZ (gJ b true (cJ c false false (.fn 88 [] []) [f,h] g) g) λf g=>aF (di b f (.bool false)) λb=>az
 b true (a6 8 e) λe=>az b true (a6 4 e) λe=>az b true (bf 4 g e) λe=>az b true (a6 8 a) λa=>az b true (a6 4 a) λa=>az b true (bf 4 g a) λa
 =>bZ (gJ b true (cJ c false false (.fn 88 [] []) [e,a] g) g) λa e=>aF (di b a (.bool false)) λa=>cY d e a
theorem VC{O:bo}(h:O 42=none):bz O funcs types 42 (bh IJ):=.bh h (bn Tryz.func42 aA) λ_ _ _ _ _=>aA
def IS(c:bt)(n:Nat)(a:V)(b:S):ax:=
 aF (bH .eql (aJ.get types 53) a .af) λd=>aw (λe f=>ha 16 0 108 (cC 0 mo) [] f λf g=>iW DM 108 f (an e) g λe f=>cY b f e) λe=>aW
 d ( bB b b [some .af]) ( e [a] b)
theorem VJ{O:bo}(h:O 46=none):bz O funcs types 46 (cN IS):=.cN h (bn Tryz.func46 aA) λ_ _ _ _=>aA
def IU(c:bt)(n:Nat)(a b:V)(d:S):ax:=
 b0 49 a d λa e=>b0 49 b e λb e=>hv 0 a λf=>hn 0 f 4 e λf=>hv 0 b λg=>hn 0 g 4 e λg=>dO c 78 [f,g] e λe f=>ay .eql e (ab 0) λ
 e=>az e true (a6 0 a) λg=>az e true (a6 4 g) λg=>az e true (bf 4 f g) λg=>az e true (a6 0 b) λh=>az e true (a6 4 h) λh=>az e true (bf 4
 f h) λh=>bZ (gJ e true (cJ c false false (.fn 78 [] []) [g,h] f) f) λf g=>az e true (bH .eql cD f (ab 0)) λf=>aF (di e f (.bool false)) λe=>
 az e true (a6 8 a) λf=>az e true (a6 0 f) λf=>az e true (bf 4 g f) λf=>az e true (a6 8 b) λh=>az e true (a6 0 h) λh=>az e true (bf 4 g h)
 λh=>bZ (gJ e true (cJ c false false (.fn 78 [] []) [f,h] g) g) λf g=>az e true (bH .eql cD f (ab 0)) λf=>aF (di e f (.bool false)) λe=>az
 e true (a6 8 a) λa=>az e true (a6 4 a) λa=>az e true (bf 4 g a) λa=>az e true (a6 8 b) λb=>az e true (a6 4 b) λb=>az e true (bf 4 g b) λb
 =>bZ (gJ e true (cJ c false false (.fn 78 [] []) [a,b] g) g) λa b=>az e true (bH .eql cD a (ab 0)) λa=>aF (di e a (.bool false)) λa=>cY d b a
theorem VL{O:bo}(h:O 48=none):bz O funcs types 48 (bh IU):=.bh h (bn Tryz.func48 aA) λ_ _ _ _ _=>aA
def N5(c:bt)(n:Nat)(a b:V)(d:S):ax:=
 b0 49 a d λa e=>b0 49 b e λb e=>hv 8 a λf=>hn 0 f 4 e λf=>hv 0 b λg=>hn 0 g 4 e λg=>dO c 78 [f,g] e λe f=>ay .lss e (ab 0) λ
 e=>az e false (a6 8 b) λg=>az e false (a6 0 g) λg=>az e false (bf 4 f g) λg=>az e false (a6 0 a) λh=>az e false (a6 0 h) λh=>az e false (bf
 4 f h) λh=>bZ (gJ e false (cJ c false false (.fn 78 [] []) [g,h] f) f) λf g=>az e false (bH .lss cD f (ab 0)) λf=>aF (di e (.bool true) f) λe
 =>aw (λf h=>hv 8 (aD f) λi=>hn 4 i 4 h λi=>hv 0 (an f) λj=>hn 4 j 4 h λj=>dO c 78 [i,j] h λh i=>ay .geq h (ab 0) λh=>az h
 true (a6 8 (an f)) λj=>az h true (a6 4 j) λj=>az h true (bf 4 i j) λj=>az h true (a6 0 (aD f)) λf=>az h true (a6 4 f) λf=>az h true (bf
 4 i f) λf=>bZ (gJ h true (cJ c false false (.fn 78 [] []) [j,f] i) i) λf i=>az h true (bH .geq cD f (ab 0)) λf=>aF (di h f (.bool false)) λf=>
 cY d i f) λf=>aW e ( cY d g (.bool false)) ( f [b,a] g)
theorem agt{O:bo}(h:O 52=none):bz O funcs types 52 (bh N5):=.bh h (bn Tryz.func52 aA) λ_ _ _ _ _=>aA
def Wi(c:bt)(n:Nat)(a:V)(b:S):ax:=
 cr a λd=>cX c 101 [d] b λd e=>aw (λf g=>cY b g (an f)) λb=>cT n (λf g h=>cr (aD g) λi=>ay .lss (an g) i λi=>aw (λj k=>
 aw (λl m=>ay .add (an l) (ab 1) λo=>f (o::lS l) m) λf=>eG 1 (aU j) (aD j) k λl=>cX c 101 [l] k λk l=>iW x0 5 (an j) k l λk l
 =>f [(aD j),(aU j),k] l) λf=>aW i ( f [(aU g),(an g),(aD g)] h) ( b [(aU g)] h)) [(ab 0),a,d] e
theorem agv{O:bo}(h:O 59=none):bz O funcs types 59 (cN Wi):=.cN h (bn Tryz.func59 aA) λ_ _ _ _=>aA
def IY(c:bt)(n:Nat)(a b:V)(d:S):ax:=
 b0 43 a d λa e=>b0 43 b e λb e=>bQ ec 45 e λe f=>br 1 b f λg=>cr g λg=>ay .eql g (ab 0) λg=>az g false (a6 1 a) λh=>az g false
 (cZ f h) λh=>az g false (fP h) λh=>az g false (bH .eql cD h (ab 0)) λh=>aF (di g (.bool true) h) λg=>aw (λh i=>bP 2 i (an h) λj=>
 bP 2 i (aD h) λk=>cX c 112 [j,k] i λi j=>bQ [(.bool false),.af] 43 j λj k=>bq 2 j i k λ_ i=>bP 2 i (an h) λk=>bP 2 i j λl=>cX
 c 113 [k,l] i λi k=>aF (dS 0 i) λl=>aF (dS 1 i) λi=>bQ [(.bool false),.af] 43 k λk m=>bQ [(.bool false),.af] 43 m λm o=>bq 2 k l o λ
 _ l=>bq 2 m i l λ_ i=>bP 2 i (aD h) λl=>bP 2 i j λj=>cX c 113 [l,j] i λi j=>aF (dS 0 i) λl=>aF (dS 1 i) λi=>bQ [(.bool false),.af]
 43 j λj m=>bQ [(.bool false),.af] 43 m λm o=>bq 2 j l o λ_ l=>bq 2 m i l λ_ i=>br 0 j i λl=>aw (λm o=>bP 2 o (aD m) λp=>dO c 115
 [p] o λo p=>aw (λq r=>bP 2 r (an q) λs=>bP 2 r (aD q) λt=>aF (bW ec [(0,2,s),(2,2,t)]) λs=>bq 4 (aU q) s r λ_ r=>bB d r [bf
 4 r (aU q)]) λq=>aW o ( bP 2 p (an m) λo=>aF (bW ec [(0,2,o)]) λo=>bq 4 (aU m) o p λ_ o=>bB d o [bf 4 o (aU m)]) ( q (fT m) p))
 λm=>aW l ( bP 2 i k λl=>cX c 114 [l] i λl o=>bq 2 k l o λ_ l=>bP 2 l j λo=>cX c 114 [o] l λl o=>bq 2 j l o λ_ l=>m [k,j,(aU
 h)] l) ( m [k,j,(aU h)] i)) λh=>aW g ( aF (bW ec []) λg=>bq 4 e g f λ_ g=>bB d g [bf 4 g e]) ( h [a,b,e] f)
theorem VP{O:bo}(h:O 66=none):bz O funcs types 66 (bh IY):=.bh h (bn Tryz.func66 aA) λ_ _ _ _ _=>aA
def I0(c:bt)(n:Nat)(a b:V)(d:S):ax:=
 b0 43 a d λa e=>b0 43 b e λb e=>bQ [(.bool false),.af] 43 e λe f=>br 1 a f λg=>cr g λg=>br 1 b f λh=>cr h λh=>ay .add g h λ
 g=>bZ (c6 f (eV types 22 g g (aN f))) λf g=>aw (λh i=>br 0 (an h) i λj=>br 0 (aD h) i λk=>aF (bH .neq (aJ.get types 4) j k) λj
 =>cX c 116 [j,(aU h)] i λi j=>bq 2 (bm h) i j λ_ i=>bB d i [bf 2 i (bm h)]) λd=>cT n (λh i j=>br 1 (aD i) j λk=>cr k λk=>ay .lss
 (an i) k λk=>aw (λl m=>aw (λo p=>ay .add (an o) (ab 1) λq=>h (q::mO o) p) λh=>aw (λo p=>br 1 (bm o) p λq=>cr q λq=>ay .add
 (aD o) q λq=>hV 1 (bY o) q λq=>bq 1 q (an o) p λ_ p=>h (rG o) p) λh=>cT n (λo p q=>br 1 (bY p) q λr=>cr r λr=>ay .lss
 (an p) r λr=>aw (λs t=>aw (λu v=>ay .add (an u) (ab 1) λw=>o (w::qa u) v) λo=>ay .add (aU s) (aD s) λu=>eG 1 (dd s) u t λ
 u=>br 1 (bm s) t λv=>eG 1 v (aU s) t λv=>br 1 (bY s) t λw=>eG 1 w (aD s) t λw=>ay .mul v w λv=>ay .add u v λu=>ay .add u (an
 s) λu=>ay .add (aU s) (aD s) λv=>ay .rem u (ab 1000000000) λw=>hV 1 (dd s) v λv=>bq 1 v w t λ_ t=>ay .quo u (ab 1000000000) λu=>
 o [(aD s),u,(aU s),(bm s),(bY s),(dd s),(eS s)] t) λo=>aW r ( o [(aD p),(an p),(aU p),(bm p),(bY p),(dd p),(eS p)] q) ( h
 (qa p) q)) [(ab 0),(ab 0),(an l),(aD l),(aU l),(bm l),(bY l)] m) λh=>aW k ( h (iY i) j) ( d (mO i) j)) [(ab 0),a,b,f,e] g
theorem VR{O:bo}(h:O 68=none):bz O funcs types 68 (bh I0):=.bh h (bn Tryz.func68 aA) λ_ _ _ _ _=>aA
def Oa(c:bt)(n:Nat)(a b:V)(d:S):ax:=
 b0 28 a d λa e=>b0 33 b e λb e=>aw (λf g=>e5 true d g [some (an f)]) λd=>cT n (λf g h=>br 1 (aU g) h λi=>cr i λi=>ay .lss (an
 g) i λi=>aw (λj k=>aw (λl m=>ay .add (an l) (ab 1) λo=>f (o::kL l) m) λf=>ay .add (an j) (ab 1) λl=>aw (λm o=>f (gA m) o) λ
 f=>cT n (λm o p=>br 1 (bm o) p λq=>cr q λq=>ay .lss (an o) q λq=>aw (λr s=>aw (λt u=>ay .add (an t) (ab 1) λv=>m (v::mO
 t) u) λm=>br 3 (aU r) s λt=>eG 1 t (aD r) s λt=>az t true (a6 3 (aU r)) λu=>az t true (cZ s u) λu=>az t true (some (an r)) λv=>
 az t true (dW 1 u v) λu=>az t true (cZ s u) λu=>aF (di t u (.bool false)) λt=>aw (λu v=>aw (λw x=>m (iY w) x) λm=>aW (an u) ( aF
 (bW [(ab 0),(ab 0)] [(0,1,(aU u)),(1,1,(aD u))]) λw=>ha 2 1 100 (cC 1 [(ab 0),(ab 0)]) [(0,2,w)] v λw x=>iW Th 100 (dd u) w x λw x
 =>m [(aD u),(aU u),(bm u),(bY u),w] x) ( m (rG u) v)) λm=>cT n (λu v w=>br 3 (dd v) w λx=>cr x λx=>ay .lss (an v) x λx=>aw
 (λy z=>aw (λA B=>ay .add (an A) (ab 1) λaQ=>u (aQ::qa A) B) λu=>az (an y) true (a6 3 (dd y)) λA=>az (an y) true (cZ z A) λA=>az
 (an y) true (some (aD y)) λB=>az (an y) true (dW 2 A B) λA=>az (an y) true (bf 2 z A) λA=>az (an y) true (some (bm y)) λB=>az (an
 y) true (some (aU y)) λaQ=>az (an y) true (bW [(ab 0),(ab 0)] [(0,1,B),(1,1,aQ)]) λB=>az (an y) true (bH .neq (aJ.get types 100) A B) λA=>aF
 (di (an y) A (.bool false)) λA=>u [(aD y),A,(aU y),(bm y),(bY y),(dd y),(eS y)] z) λu=>aW x ( u [(aD v),(an v),(aU v),(bm v),
 (bY v),(dd v),(eS v)] w) ( m (qa v) w)) [(ab 0),t,(an r),(aD r),(aU r),(bm r),(bY r)] s) λm=>aW q ( m (iY o) p) ( f (mO o) p)) (l
 ::gA j) k) λf=>aW i ( f (gA g) h) ( d [(bm g)] h)) [(ab 0),b,a,.af] e
theorem agC{O:bo}(h:O 73=none):bz O funcs types 73 (bh Oa):=.bh h (bn Tryz.func73 aA) λ_ _ _ _ _=>aA
def Od(c:bt)(n:Nat)(a b:V)(d:S):ax:=
 b0 47 b d λb e=>aw (λ_ f=>cY d f (.bool true)) λf=>cT n (λg h i=>cr (aD h) λj=>ay .lss (an h) j λj=>aw (λk l=>aw (λm o=>ay .add
 (an m) (ab 1) λp=>g (p::lS m) o) λg=>ke 4 (aD k) (an k) l λm=>bP 8 l (aU k) λo=>ij c 123 [m,o] l λl m=>ij c 72 [l] m λl m=>
 ay .geq l (ab 0) λl=>aw (λo p=>g (fT o) p) λg=>aW l ( cY d m (.bool false)) ( g (fT k) m)) λd=>aW j ( d (fT h) i) ( f [] i)) [(ab 0),a,b]
 e
theorem agF{O:bo}(h:O 76=none):bz O funcs types 76 (bh Od):=.bh h (bn Tryz.func76 aA) λ_ _ _ _ _=>aA
def Ok(c:bt)(n:Nat)(a b d e f:V)(g:S):ax:=
 b0 47 b g λb h=>b0 47 d h λd h=>b0 47 e h λe h=>bQ mo 49 h λh i=>bQ [(ab 0),(ab 0)] 82 i λi j=>bQ [(ab 0),(ab 0)] 82 j λj k=>
 aw (λl m=>hn 0 (an l) 4 m λo=>hn 0 (aD l) 4 m λp=>hn 0 (aU l) 4 m λq=>cX c 130 [o,p,q,(bm l)] m λm o=>aF (dS 0 m) λp=>aF
 (dS 1 m) λm=>bQ ec 45 o λo q=>bQ ec 45 q λq r=>bq 4 o p r λ_ p=>bq 4 q m p λ_ m=>hn 4 (an l) 4 m λp=>hn 4 (aD l) 4 m λr=>hn
 4 (aU l) 4 m λs=>cX c 130 [p,r,s,(bm l)] m λm p=>aF (dS 0 m) λr=>aF (dS 1 m) λm=>bQ ec 45 p λp s=>bQ ec 45 s λs t=>bq 4 p
 r t λ_ r=>bq 4 s m r λ_ m=>b7 4 m o λm o r=>bd o (a6 0 (bY l)) λo t u=>dQ t o λo t v=>bS c 131 [o] t λo t w=>bS c 33 [m,o] t λm o t
 =>b7 4 o p λo p x=>bd p (a6 1 (bY l)) λp y z=>dQ y p λp y A=>bS c 131 [p] y λp y B=>bS c 33 [o,p] y λo p y=>bd p (bW gG [(0,4,m),(4,
 4,o)]) λm o p=>b7 4 o q λo q aQ=>bd q (a6 0 (dd l)) λq cB F=>dQ cB q λq cB G=>bS c 131 [q] cB λq cB H=>bS c 33 [o,q] cB λo q cB=>b7 4 q s λ
 q s I=>bd s (a6 1 (dd l)) λs e4 K=>dQ e4 s λs e4 L=>bS c 131 [s] e4 λs e4 M=>bS c 33 [q,s] e4 λq s e4=>bd s (bW gG [(0,4,o),(4,4,q)]) λo q
 s=>bd q (bW mo [(0,8,m),(8,8,o)]) λm o q=>dx 16 (eS l) m o λ_ m o=>dX [0,0,2,6,15,0,0,64,223,511,1023,0,0,4096,13311,31743,0,0,131072,
 457727,1047551,2096127,4194303,8388607] [r,u,v,w,t,x,z,A,B,y,p,aQ,F,G,H,cB,I,K,L,M,e4,s,q,o] <| bB g m [bf 16 m (eS l)]) λg=>cT n (λl m o=>
 cr (aD m) λp=>ay .lss (an m) p λp=>aw (λq r=>aw (λs t=>ay .add (an s) (ab 1) λu=>l (u::LG s) t) λl=>ay .eql (an q) (ab 0)
 λs=>aw (λt u=>br 0 (eS t) u λv=>hV 2 (aD t) (an t) λw=>br 0 w u λw=>aF (mq false [v,w]) λv=>hv 0 (eS t) λw=>bq 1 w v u
 λ_ u=>br 1 (eS t) u λv=>hV 2 (aD t) (an t) λw=>br 1 w u λw=>aF (mq false [v,w]) λv=>hv 1 (eS t) λw=>bq 1 w v u λ_ u=>br
 0 (ik t) u λv=>hV 2 (aD t) (an t) λw=>br 0 w u λw=>aF (mq true [v,w]) λv=>hv 0 (ik t) λw=>bq 1 w v u λ_ u=>br 1 (ik t) u
 λv=>hV 2 (aD t) (an t) λw=>br 1 w u λw=>aF (mq true [v,w]) λv=>hv 1 (ik t) λw=>bq 1 w v u λ_ u=>l (xG t) u) λl=>aW s (
 ke 2 (aD q) (ab 0) r λs=>bq 2 (eS q) s r λ_ s=>ke 2 (aD q) (ab 0) s λt=>bq 2 (ik q) t s λ_ s=>l (xG q) s) ( l (xG q) r)) λl=>aW
 p ( l (xG m) o) ( g [(aU m),(bm m),(bY m),(dd m),(eS m),(ik m),(mn m)] o)) [(ab 0),a,b,d,e,f,i,j,h] k
theorem agM{O:bo}(h:O 85=none):bz O funcs types 85 (vz Ok):=.vz h (bn Tryz.func85 aA) λ_ _ _ _ _ _ _ _=>aA
def Jb(c:bt)(n:Nat)(a b d:V)(e:S):ax:=
 b0 28 a e λa f=>bQ gG 47 f λf g=>bP 4 g a λh=>cX c 143 [h,b,d] g λb g=>aF (dS 0 b) λh=>aF (dS 1 b) λi=>aF (dS 2 b) λb=>bQ
 ec 45 g λg j=>bQ ec 45 j λj k=>bQ ec 45 k λk l=>bq 4 g h l λ_ h=>bq 4 j i h λ_ h=>bq 4 k b h λ_ b=>bd b (a6 1 a) λa b h=>dQ b
 a λa b i=>dD b d λb d k=>bd d (dW 18 a b) λa b d=>bd b (a6 1 a) λa b l=>b7 8 b a λa b m=>b7 4 b g λb g o=>b7 4 g j λg j p=>bd j (bW
 gG [(0,4,b),(4,4,g)]) λb g j=>bS c 144 [a,b] g λa b g=>dx 8 f a b λ_ a b=>dX [0,1,0,7,15,31,0,0,192,511,1023] [h,i,k,d,l,m,o,p,j,g,b]
 <| bB e a [bf 8 a f]
theorem V2{O:bo}(h:O 90=none):bz O funcs types 90 (hA Jb):=.hA h (bn Tryz.func90 aA) λ_ _ _ _ _ _=>aA
def Wl(c:bt)(n:Nat)(a b d:V)(e:S):ax:=
 b0 28 a e λa f=>bQ gG 47 f λf g=>bQ ec 45 g λg h=>bP 4 h a λa=>cX c 143 [a,b,d] h λa b=>aF (dS 0 a) λd=>aF (dS 1 a) λh=>
 aF (dS 2 a) λa=>bQ ec 45 b λb i=>bQ ec 45 i λi j=>bQ ec 45 j λj k=>bq 4 b d k λ_ d=>bq 4 i h d λ_ d=>bq 4 j a d λ_ a=>b7 4
 a b λa b d=>b7 4 b i λb h i=>bd h (bW gG [(0,4,a),(4,4,b)]) λa b h=>b7 4 b j λb j k=>dx 8 f a j λ_ a j=>dx 4 g b a λ_ a b=>dX [0,
 0,3,0,7,31] [d,i,h,k,j,b] <| bB e a [bf 8 a f,bf 4 a g]
theorem agO{O:bo}(h:O 97=none):bz O funcs types 97 (hA Wl):=.hA h (bn Tryz.func97 aA) λ_ _ _ _ _ _=>aA
def V7(c:bt)(n:Nat)(a:V)(b:S):ax:=
 b0 45 a b λa d=>aw (λe f=>hn 0 (an e) 2 f λg=>hn 2 (an e) 2 f λe=>dO c 159 [g,e] f λe f=>dO c 158 [e] f λe f=>cY b f e) λe=>
 hn 0 a 2 d λf=>dO c 157 [f] d λd f=>aF (un .not d) λd=>az d false (a6 2 a) λg=>az d false (bf 2 f g) λg=>bZ (gJ d false (cJ c false false
 (.fn 157 [] []) [g] f) f) λf g=>az d false (un .not f) λf=>aF (di d (.bool true) f) λd=>az d false (a6 2 a) λf=>az d false (a6 0 f) λf=>az d
 false (cZ g f) λf=>aF (di d (.bool true) f) λd=>az d false (a6 2 a) λf=>az d false (bf 2 g f) λf=>bZ (gJ d false (cJ c false false (.fn 158
 [] []) [f] g) g) λf g=>aF (di d (.bool true) f) λd=>aw (λf h=>e [(an f)] h) λe=>aW d ( cY b g (.bool false)) ( hv 2 a λd=>br 1 d g λd=>
 cr d λd=>ay .eql d (ab 0) λd=>aw (λf h=>e [(an f)] h) λe=>aW d ( cY b g (.bool true)) ( e [a] g))
theorem afG{O:bo}(h:O 106=none):bz O funcs types 106 (cN V7):=.cN h (bn Tryz.func106 aA) λ_ _ _ _=>aA
def HB(c:bt)(n:Nat)(a b:V)(d:S):ax:=
 b0 43 a d λa e=>b0 43 b e λb e=>bQ [(.bool false),.af] 43 e λe f=>bQ [(.bool false),.af] 43 f λf g=>br 1 b g λh=>cr h λh=>ay .eql
 h (ab 0) λh=>aw (λi j=>br 1 (an i) j λk=>br 1 (aD i) j λl=>dO c 162 [k,l] j λj k=>aF (dS 0 j) λl=>aF (dS 1 j) λj=>br 0 (an
 i) k λm=>br 0 (aD i) k λo=>aF (bH .neq (aJ.get types 4) m o) λm=>cX c 116 [m,l] k λk l=>bQ [(.bool false),.af] 43 l λl m=>bq 2 l k m λ
 _ k=>cX c 116 [(.bool false),j] k λj k=>bQ [(.bool false),.af] 43 k λk m=>bq 2 k j m λ_ j=>br 0 (an i) j λm=>az m true (a6 1 k) λo=>az
 m true (cZ j o) λo=>az m true (fP o) λo=>az m true (bH .gtr cD o (ab 0)) λo=>aF (di m o (.bool false)) λm=>aw (λo p=>b7 2 p (an o) λ
 p q r=>b7 2 q (aD o) λq s t=>dx 2 (aU o) p s λ_ p s=>dx 2 (bm o) q p λ_ p q=>dX [0,0,1,7] [r,t,s,q] <| bB d p [bf 2 p (aU o),bf 2 p (bm
 o)]) λo=>aW m ( b7 2 j l λm p q=>bd p (a6 0 (an i)) λp r s=>dQ r p λp r t=>bd r (a6 0 (aD i)) λr u v=>dQ u r λr u w=>bd u (bH .neq
 (aJ.get types 4) p r) λp r u=>kM r (some []) (some []) (fl 1 1 3 (cC 1 [(ab 0)]) [(0,1,(ab 1))] (aN r)) λr x y=>bS c 116 [p,r] x λp r x=>bS c 70 [m,
 p] r λm p r=>dx 2 l m p λ_ m p=>dX [0,0,2,0,8,30,0,126,255,511] [q,s,t,v,w,u,y,x,r,p] <| br 1 (aD i) m λp=>br 1 k m λq=>cX c 119
 [p,q] m λm p=>cX c 116 [(.bool false),m] p λm p=>bq 2 k m p λ_ m=>o [l,k,(aU i),(bm i)] m) ( o [l,k,(aU i),(bm i)] j)) λi=>aW h ( aF
 (bW [(.bool false),.af] []) λh=>aF (bW [(.bool false),.af] []) λj=>bq 2 e h g λ_ h=>bq 2 f j h λ_ h=>bB d h [bf 2 h e,bf 2 h f]) ( i [a,
 b,e,f] g)
theorem Ux{O:bo}(h:O 113=none):bz O funcs types 113 (bh HB):=.bh h (bn Tryz.func113 aA) λ_ _ _ _ _=>aA
def Nz(c:bt)(n:Nat)(a b:V)(d:S):ax:=
 b0 94 b d λb e=>br 0 b e λf=>hV 2 a (ab 0) λg=>br 0 g e λg=>ay .mul f g λf=>br 1 b e λg=>hV 2 a (ab 0) λh=>br 1 h e λh=>
 ay .mul g h λg=>ay .add f g λf=>aw (λg h=>cY d h (an g)) λd=>cT n (λg h i=>cr (aU h) λj=>ay .lss (an h) j λj=>aw (λk l=>
 aw (λm o=>ay .add (an m) (ab 1) λp=>g (p::kL m) o) λg=>br 0 (aU k) l λm=>hV 2 (bm k) (aD k) λo=>br 0 o l λo=>ay .mul m o λ
 m=>br 1 (aU k) l λo=>hV 2 (bm k) (aD k) λp=>br 1 p l λp=>ay .mul o p λo=>ay .add m o λm=>aF (mq true [(an k),m]) λm=>g [(aD
 k),(aU k),(bm k),m] l) λg=>aW j ( g [(bm h),(an h),(aD h),(aU h)] i) ( d [(bm h)] i)) [(ab 0),b,a,f] e
theorem afR{O:bo}(h:O 127=none):bz O funcs types 127 (bh Nz):=.bh h (bn Tryz.func127 aA) λ_ _ _ _ _=>aA
def HJ(c:bt)(n:Nat)(a b:V)(d:S):ax:=
 b0 43 a d λa e=>b0 43 b e λb e=>br 0 a e λf=>br 0 b e λg=>aF (bH .neq (aJ.get types 4) f g) λf=>aw (λg h=>br 0 (an g) h λi=>aw
 (λj k=>br 1 (an j) k λl=>br 1 (aD j) k λj=>dO c 118 [l,j] k λj k=>cY d k j) λj=>aW i ( br 1 (aD g) h λi=>br 1 (an g) h λ
 k=>dO c 118 [i,k] h λi k=>cY d k i) ( j (iX g) h)) λg=>aW f ( br 0 a e λf=>aw (λ_ h=>cY d h (ab 1)) λh=>aW f ( cY d e (ab (-1)))
 ( h [] e)) ( g [a,b] e)
theorem UF{O:bo}(h:O 128=none):bz O funcs types 128 (bh HJ):=.bh h (bn Tryz.func128 aA) λ_ _ _ _ _=>aA
def HK(c:bt)(n:Nat)(a:V)(b:S):ax:=
 bQ ec 45 b λd e=>cX c 9 [a,(ab 41)] e λe f=>ay .sub e (ab 20) λe=>ha 1 6 3 (cC 6 [(ab 0)]) [(0,1,(ab 1)),(1,1,(ab 1)),(2,1,(ab 2)),
 (3,1,(ab 3)),(4,1,(ab 5)),(5,1,(ab 8))] f λf g=>ay .quo a (ab 41) λa=>cX c 9 [a,(ab 6)] g λa g=>eG 1 f a g λa=>cX c 28 [e,a] g λ
 a e=>bq 4 d a e λ_ a=>bB b a [bf 4 a d]
theorem UG{O:bo}(h:O 129=none):bz O funcs types 129 (cN HK):=.cN h (bn Tryz.func129 aA) λ_ _ _ _=>aA
def HM(c:bt)(n:Nat)(a b:V)(d:S):ax:=
 b0 43 a d λa e=>b0 43 b e λb e=>br 0 a e λf=>br 0 b e λg=>aF (bH .eql (aJ.get types 4) f g) λf=>az f true (a6 1 a) λa=>az f true (cZ
 e a) λa=>az f true (a6 1 b) λb=>az f true (cZ e b) λb=>bZ (gJ f true (cJ c false false (.fn 134 [] []) [a,b] e) e) λa b=>aF (di f a (.bool false))
 λa=>cY d b a
theorem UI{O:bo}(h:O 133=none):bz O funcs types 133 (bh HM):=.bh h (bn Tryz.func133 aA) λ_ _ _ _ _=>aA
def Wb(c:bt)(n:Nat)(a:V)(b:S):ax:=
 b0 43 a b λa d=>br 1 a d λe=>dO c 190 [e,(.fn 191 [] [])] d λd e=>aw (λf g=>br 1 (an f) g λh=>cr h λh=>ay .eql h (ab 0) λh=>az
 h true (a6 0 (an f)) λi=>az h true (cZ g i) λi=>az h true (un .not i) λi=>aF (di h i (.bool false)) λh=>az h false (a6 1 (an f)) λi=>az
 h false (cZ g i) λi=>az h false (fP i) λi=>az h false (bH .gtr cD i (ab 0)) λi=>az h false (some i) λi=>az i true (a6 1 (an f)) λj=>az
 i true (cZ g j) λj=>az i true (a6 1 (an f)) λf=>az i true (cZ g f) λf=>az i true (fP f) λf=>az i true (bH .sub cD f (ab 1)) λf=>az i true
 (dW 1 j f) λf=>az i true (cZ g f) λf=>az i true (bH .neq cD f (ab 0)) λf=>az h false (di i f (.bool false)) λf=>aF (di h (.bool true) f) λ
 f=>cY b g f) λf=>aW d ( cY b e (.bool false)) ( f [a] e)
theorem afW{O:bo}(h:O 157=none):bz O funcs types 157 (cN Wb):=.cN h (bn Tryz.func157 aA) λ_ _ _ _=>aA
def H5(c:bt)(n:Nat)(a b:V)(d:S):ax:=
 b0 43 a d λa e=>b0 43 b e λb e=>bQ [(.bool false),.af] 43 e λe f=>bd f (a6 1 a) λa f g=>dQ f a λa f h=>bS c 192 [(.bool false),a] f λa
 f i=>bd f (a6 1 b) λb f j=>dQ f b λb f k=>bS c 192 [(.bool false),b] f λb f l=>lT [(.bool false),.af] 43 f λf m o=>lT [(.bool false),.af] 43
 m λm p q=>dx 2 f a p λ_ a p=>dx 2 m b a λ_ a b=>dX [0,1,3,0,8,31,0,0,255,511] [g,h,i,j,k,l,o,q,p,b] <| aw (λb g=>bP 2 g (an b) λh
 =>bq 2 (aD b) h g λ_ g=>bB d g [bf 2 g (aD b)]) λb=>cT n (λg h i=>br 1 (an h) i λj=>cr j λj=>ay .gtr j (ab 0) λj=>aw (λk l
 =>aw (λo p=>g (fT o) p) λg=>br 1 (aD k) l λo=>dO c 193 [o] l λl o=>aF (dS 0 l) λp=>aF (dS 1 l) λl=>br 1 (an k) o λq=>dO
 c 193 [q] o λo q=>aF (dS 0 o) λr=>aF (dS 1 o) λo=>az l true (some o) λo=>aF (di l o (.bool false)) λl=>aw (λo s=>br 1 (aD o) s λ
 t=>br 1 (an o) s λu=>cX c 195 [t,u] s λs t=>aF (dS 0 s) λu=>aF (dS 1 s) λs=>bQ [(.bool false),.af] 43 t λt v=>bQ [(.bool false),.af]
 43 v λv w=>bq 2 t u w λ_ t=>bq 2 v s t λ_ s=>b7 2 s (an o) λs t u=>b7 2 t v λt v w=>dx 2 (aD o) s v λ_ s v=>dx 2 (an o) t s λ_
 s t=>dX [0,0,1,7] [u,w,v,t] <| g (fT o) s) λg=>aW l ( aw (λl o=>aF (mc .u64 (an l)) λs=>cX c 194 [(.bool false),s] o λo s=>bq 2 (aD
 l) o s λ_ o=>bB d o [bf 2 o (aD l)]) λd=>cT n (λl o s=>ay .gtr (an o) (ab 0) λt=>aw (λu v=>aw (λw x=>l (fT w) x) λl=>ay .rem
 (an u) (aD u) λw=>l (w::lS u) v) λl=>aW t ( l [(aD o),(an o),(aU o)] s) ( d (lS o) s)) [r,p,(aU k)] q) ( g (fT k) q)) λd=>aW j
 ( d (fT h) i) ( b (lS h) i)) [m,f,e] a
theorem U1{O:bo}(h:O 159=none):bz O funcs types 159 (bh H5):=.bh h (bn Tryz.func159 aA) λ_ _ _ _ _=>aA
def H8(c:bt)(n:Nat)(a:V)(b:S):ax:=
 dO c 163 [a,(ab 1)] b λd e=>ay .mul d (ab 1000000000) λd=>dO c 163 [a,(ab 0)] e λa e=>ay .add d a λa=>cY b e a
theorem U4{O:bo}(h:O 161=none):bz O funcs types 161 (cN H8):=.cN h (bn Tryz.func161 aA) λ_ _ _ _=>aA
def NF(c:bt)(n:Nat)(a b:V)(d:S):ax:=
 b0 45 a d λa e=>b0 45 b e λb e=>bQ ec 45 e λe f=>b7 4 f a λa f g=>b7 4 f b λb f h=>bS c 172 [b] f λb f i=>bS c 33 [a,b] f λa b f=>
 dx 4 e a b λ_ a b=>dX [0,0,2,7,15] [g,h,i,f,b] <| bB d a [bf 4 a e]
theorem afX{O:bo}(h:O 164=none):bz O funcs types 164 (bh NF):=.bh h (bn Tryz.func164 aA) λ_ _ _ _ _=>aA
def NJ(c:bt)(n:Nat)(a:V)(b:S):ax:=
 aF (un .neg a) λd=>aF (mq true [a,d]) λa=>cY b b a
theorem af1{O:bo}(h:O 168=none):bz O funcs types 168 (cN NJ):=.cN h (bn Tryz.func168 aA) λ_ _ _ _=>aA
def Ig(c:bt)(n:Nat)(a:V)(b:S):ax:=
 b0 45 a b λa d=>bQ ec 45 d λd e=>bd e (a6 0 a) λe f g=>b7 2 f e λe f h=>bS c 197 [e] f λe f i=>bd f (a6 2 a) λa f j=>b7 2 f a λa
 f k=>bd f (bW ec [(0,2,e),(2,2,a)]) λa e f=>dx 4 d a e λ_ a e=>dX [0,1,3,0,8,31,63] [g,h,i,j,k,f,e] <| bB b a [bf 4 a d]
theorem Va{O:bo}(h:O 175=none):bz O funcs types 175 (cN Ig):=.cN h (bn Tryz.func175 aA) λ_ _ _ _=>aA
def Ih(c:bt)(n:Nat)(a b:V)(d:S):ax:=
 b0 45 a d λa e=>b0 45 b e λb e=>bQ ec 45 e λe f=>hv 0 b λg=>br 1 g f λg=>cr g λg=>ay .eql g (ab 0) λg=>aw (λh i=>b7 4 i
 (an h) λi j k=>b7 4 j (aD h) λj l m=>bS c 179 [j] l λj l o=>bd l (a6 0 (aD h)) λl p q=>b7 2 p l λl p r=>bS c 198 [j,l] p λj l p=>bS
 c 183 [i,j] l λi j l=>dx 4 (aU h) i j λ_ i j=>dX [0,0,2,0,8,30,63,127] [k,m,o,q,r,p,l,j] <| bB d i [bf 4 i (aU h)]) λh=>aW g ( aF (bW
 ec []) λg=>bq 4 e g f λ_ g=>bB d g [bf 4 g e]) ( h [a,b,e] f)
theorem Vb{O:bo}(h:O 176=none):bz O funcs types 176 (bh Ih):=.bh h (bn Tryz.func176 aA) λ_ _ _ _ _=>aA
def Iw(c:bt)(n:Nat)(a b:V)(d:S):ax:=
 cX c 116 [(.bool false),a] d λa e=>cX c 67 [b] e λb e=>cX c 68 [a,b] e λa b=>bQ [(.bool false),.af] 43 b λb e=>bq 2 b a e λ_ a=>br 1 b
 a λb=>cY d a b
theorem Vp{O:bo}(h:O 196=none):bz O funcs types 196 (bh Iw):=.bh h (bn Tryz.func196 aA) λ_ _ _ _ _=>aA
def IA(c:bt)(n:Nat)(a b:V)(d:S):ax:=
 cr a λe=>cr b λf=>ay .neq e f λe=>aw (λf g=>cr (an f) λh=>ay .sub h (ab 1) λh=>aw (λ_ i=>cY d i (ab 0)) λi=>cT n (λ
 j k l=>ay .geq (an k) (ab 0) λm=>aw (λo p=>aw (λq r=>ay .sub (an q) (ab 1) λs=>j (s::lS q) r) λj=>eG 1 (aD o) (an o) p λq=>
 eG 1 (aU o) (an o) p λr=>ay .neq q r λq=>aw (λr s=>j (fT r) s) λj=>aW q ( eG 1 (aD o) (an o) p λq=>eG 1 (aU o) (an o) p λ
 r=>ij c 137 [q,r] p λq r=>cY d r q) ( j (fT o) p)) λj=>aW m ( j (fT k) l) ( i [] l)) (h::iX f) g) λf=>aW e ( cr a λe=>cr b λg=>
 cX c 137 [e,g] d λe g=>cY d g e) ( f [a,b] d)
theorem Vt{O:bo}(h:O 200=none):bz O funcs types 200 (bh IA):=.bh h (bn Tryz.func200 aA) λ_ _ _ _ _=>aA
def IC(c:bt)(n:Nat)(a:S):ax:=
 bQ [(.bool false),.af] 43 a λb d=>cX c 182 [(ab 1)] d λd e=>bq 2 b d e λ_ d=>bB a d [bf 2 d b]
theorem Vv{O:bo}(h:O 202=none):bz O funcs types 202 (yl IC):=.yl h (bn Tryz.func202 aA) λ_ _ _=>aA
def We(c:bt)(n:Nat)(a b:V)(d:S):ax:=
 cr a λe=>aw (λ_ f=>cY d f (ab (-1))) λf=>cT n (λg h i=>ay .lss (an h) (aD h) λj=>aw (λk l=>aw (λm o=>ay .add (an m) (ab 1)
 λp=>g (p::kL m) o) λg=>eG 1 (bm k) (an k) l λm=>bZ (cJ c false false (aU k) [m] l) λl m=>aw (λo p=>g (gA o) p) λg=>aW l ( cY
 d m (an k)) ( g (gA k) m)) λg=>aW j ( g (gA h) i) ( f [] i)) [(ab 0),e,b,a] d
theorem aga{O:bo}(h:O 217=none):bz O funcs types 217 (bh We):=.bh h (bn Tryz.func217 aA) λ_ _ _ _ _=>aA
end Go.ah.X
