/-
  A part: lemmas; conditions: those that each names.
-/
import Derived.Test.YtalmddmghdinkaaGreatDoorM
set_option linter.all false
set_option linter.deprecated false
noncomputable section
set_option maxRecDepth 100000
namespace Go.ah.X
open Go Go.ah Go.Proofs Go.Proofs.dI
def N4(c:bt)(n:Nat)(a:V)(b:S):ax:=
 bQ Da 28 b λd e=>bQ Da 28 e λe f=>aF (bW [(ab 0),(ab 0)] [(0,1,(ab (-40))),(1,1,(ab (-4)))]) λg=>aF (bW [(ab 0),(ab 0)] [(0,1,
 (ab 60)),(1,1,(ab (-4)))]) λh=>aF (bW [(ab 0),(ab 0)] [(0,1,(ab 60))]) λi=>aF (bW [(ab 0),(ab 0)] [(0,1,(ab (-40)))]) λj=>ha 2
 4 82 (cC 4 [(ab 0),(ab 0)]) [(0,2,g),(2,2,h),(4,2,i),(6,2,j)] f λf g=>cX c 29 [a,(ab 0),(ab 4)] g λg h=>cX c 28 [g,(ab 2)] h λg h=>cX
 c 29 [a,(ab 1),(ab 3)] h λh i=>cX c 28 [h,(ab 2)] i λh i=>aF (bW [.af,(.bool false),.af,(.bool false),.af,(.bool false),.af,(.bool false),.af,.af,
 (.bool false),.af,(.bool false),.af,(.bool false),.af,(.bool false),.af] [(0,1,f),(10,4,g),(14,4,h)]) λf=>ha 18 1 88 (cC 1 [.af,(.bool false),.af,
 (.bool false),.af,(.bool false),.af,(.bool false),.af,.af,(.bool false),.af,(.bool false),.af,(.bool false),.af,(.bool false),.af]) [(0,18,f)] i λ
 f g=>hv 1 e λh=>bq 1 h f g λ_ f=>dO c 29 [a,(ab 2),(ab 3)] f λf g=>ay .add (ab 1) f λf=>aw (λh i=>dO c 29 [(an h),(ab 3),(ab
 8)] i λi j=>ay .rem i (ab 2) λk=>ay .eql k (ab 1) λk=>az k true (a6 0 (aD h)) λl=>az k true (cZ j l) λl=>az k true (fP l) λl=>az
 k true (bH .lss cD l (ab 6)) λl=>aF (di k l (.bool false)) λk=>aw (λl m=>ay .quo (an l) (ab 2) λo=>ay .rem o (ab 2) λo=>ay .eql o (ab
 1) λo=>aw (λp q=>ay .eql (an p) (ab 7) λr=>az r true (a6 1 (aD p)) λs=>az r true (cZ q s) λs=>az r true (fP s) λs=>az r true (bH .gtr
 cD s (ab 2)) λs=>aF (di r s (.bool false)) λr=>aw (λs t=>bP 4 t (an s) λu=>bq 4 (aD s) u t λ_ t=>bB b t [bf 4 t (aD s)]) λb=>aW
 r ( aF (bW [(ab 0),(ab 0)] [(0,1,(ab 1)),(1,1,(ab 2))]) λr=>ha 2 1 100 (cC 1 [(ab 0),(ab 0)]) [(0,2,r)] q λr s=>hv 3 (aD p) λt=>bq
 1 t r s λ_ r=>b (lS p) r) ( b (lS p) q)) λb=>aW o ( br 1 (aD l) m λo=>ke 18 o (ab 1) m λo=>bQ [.af,(.bool false),.af,(.bool false),.af,
 (.bool false),.af,(.bool false),.af,.af,(.bool false),.af,(.bool false),.af,(.bool false),.af,(.bool false),.af] 88 m λp q=>bq 18 p o q λ_ o=>bd
 o (a6 2 (aD l)) λo q r=>dQ q o λo q s=>bd q (a6 1 p) λq t u=>bd t (a6 0 q) λq t v=>b7 4 t q λq t w=>bd t (bW gG [(0,4,q)]) λq t x
 =>bd t (bW [(ab 0),(ab 0),(ab 0)] [(1,1,(ab 1)),(2,1,(ab 1))]) λt y z=>bd y (bW [(ab 0),(ab 0),(ab 0)] [(0,1,(ab 3)),(1,1,(ab 4)),
 (2,1,(ab 5))]) λy A B=>bd A (bW [(ab 0),(ab 0),(ab 0)] [(0,1,(ab 1)),(2,1,(ab 1))]) λA aQ cB=>kM aQ (some []) (some []) (fl 3 3 94 (cC 3 [(ab
 0),(ab 0),(ab 0)]) [(0,3,t),(3,3,y),(6,3,A)] (aN aQ)) λt y A=>bd y (a6 1 p) λp y aQ=>bd y (a6 4 p) λp y F=>b7 4 y p λp y G=>dD y (an l)
 λy H I=>bd H (bH .quo cD y (ab 4)) λy H e4=>bS c 34 [y] H λy H K=>bS c 33 [p,y] H λp y H=>bd y (bW [(ab 0),(ab 0),(.bool false),.af,(.bool
 false),.af,(.bool false),.af,(.bool false),.af,(.bool false),.af,(.bool false),.af,(.bool false),.af,(.bool false),.af,.af,(.bool false),.af,(.bool
 false),.af] [(0,1,(ab 0)),(1,1,(ab 1)),(2,8,q),(18,1,t),(19,4,p)]) λp q t=>kM q (some []) (some []) (fl 23 1 99 (cC 1 [(ab 0),(ab 0),(.bool false),.af,
 (.bool false),.af,(.bool false),.af,(.bool false),.af,(.bool false),.af,(.bool false),.af,(.bool false),.af,(.bool false),.af,.af,(.bool false),.af,
 (.bool false),.af]) [(0,23,p)] (aN q)) λp q y=>kM q (some ([o,p].flatMap cp.cc)) (some (cp.cc o)) (fD adY 99 o p (aN q)) λo p q=>bd p (a6 2 (aD
 l)) λp L M=>dx 1 p o L λ_ o p=>dX [0,1,0,4,12,28,0,0,0,448,0,1024,3072,0,8192,24576,64512,131068,262140,524287,1048575,2097151] [r,s,u,v,w,x,
 z,B,cB,A,aQ,F,G,I,e4,K,H,t,y,q,M,p] <| b (fT l) o) ( b (fT l) m)) λb=>aW k ( bP 4 j (aD h) λk=>cX c 32 [k,i] j λk l=>bq 4 (aD h) k
 l λ_ k=>b (i::lS h) k) ( b (i::lS h) j)) λb=>cT n (λh i j=>ay .lss (aU i) (bm i) λk=>az k true (a6 0 (dd i)) λl=>az k true (cZ
 j l) λl=>az k true (fP l) λl=>az k true (bH .lss cD l (ab 5)) λl=>aF (di k l (.bool false)) λk=>aw (λl m=>aw (λo p=>ay .add (an o)
 (ab 1) λq=>h [(aD o),(aU o),q,(bm o),(bY o),(dd o),(eS o)] p) λh=>ay .mul (ab 2) (aU l) λo=>ay .add (ab 4) o λo=>dO c 29
 [(bY l),o,(ab 432)] m λm o=>dO c 30 [m] o λo p=>aF (dS 0 o) λq=>aF (dS 1 o) λo=>ay .mul (ab 2) (aU l) λr=>ay .add (ab 5) r λ
 r=>dO c 29 [(bY l),r,(ab 7)] p λp r=>ay .gtr (an l) (ab 0) λs=>az s true (some p) λt=>az s true (bH .lss cD t (ab 3)) λt=>aF (di
 s t (.bool false)) λs=>aw (λt u=>bP 4 u (oe t) λv=>ay .quo (aD t) (ab 6) λw=>ay .eql (aU t) (ab 6) λx=>az x true (a6 0 (oe t)) λ
 y=>az x true (cZ u y) λy=>az x true (fP y) λy=>az x true (bH .lss cD y (ab 4)) λy=>aF (di x y (.bool false)) λx=>cX c 31 [v,(an t),(eS
 t),(bm t),w,x] u λu v=>bq 4 (oe t) u v λ_ u=>ay .gtr (bY t) (ab 0) λv=>aw (λw x=>h (pA w) x) λh=>aW v ( ay .add (bm t) (bY t)
 λv=>h [(dd t),v,(eS t),(ik t),(mn t),(oe t),(nth t 10)] u) ( h [(dd t),(ab 0),(eS t),(ik t),(mn t),(oe t),(nth t 10)] u)) λh=>aW
 s ( h [q,m,p,(an l),o,(aU l),(aD l),(bm l),(bY l),(dd l),(eS l)] r) ( ay .add (aD l) (ab 10) λs=>ay .gtr p (ab 4) λt=>aw (λu v
 =>h (aaZ u) v) λh=>aW t ( ay .rem m (ab 4) λt=>ay .add (ab 1) t λt=>h [q,m,p,t,o,(aU l),s,(bm l),(bY l),(dd l),(eS l)] r) ( h
 [q,m,p,(ab 0),o,(aU l),s,(bm l),(bY l),(dd l),(eS l)] r))) λh=>aW k ( h (pA i) j) ( b [(bY i),(dd i),(eS i)] j)) [(ab 0),(ab (-18)),
 (ab 0),f,a,e,d] g
theorem ags{O:bo}(h:O 5=none):bz O funcs types 5 (cN N4):=.cN h (bn Tryz.func5 aA) λ_ _ _ _=>aA
def ND(c:bt)(n:Nat)(a b:V)(d:S):ax:=
 b0 37 a d λa e=>bQ lx 37 e λe f=>bP 5 f a λg=>dO c 18 [g] f λf g=>aF (un .not f) λf=>aw (λh i=>br 1 (aD h) i λj=>ay .lss (an
 h) j λj=>az j false (some (an h)) λk=>az j false (a6 2 (aD h)) λl=>az j false (cZ i l) λl=>az j false (bH .gtr cD k l) λk=>aF (di j
 (.bool true) k) λj=>aw (λk l=>hv 2 (aD k) λm=>bq 1 m (an k) l λ_ l=>bP 5 l (aD k) λm=>bq 5 (aU k) m l λ_ l=>bB d l [bf 5 l (aU
 k),some (ab 0)]) λk=>aW j ( aF (bW lx []) λj=>bq 5 (aU h) j i λ_ j=>bB d j [bf 5 j (aU h),some (ab 5)]) ( k (fT h) i)) λh=>aW f
 ( aF (bW lx []) λf=>bq 5 e f g λ_ f=>bB d f [bf 5 f e,some (ab 1)]) ( h [b,a,e] g)
theorem afV{O:bo}(h:O 15=none):bz O funcs types 15 (bh ND):=.bh h (bn Tryz.func15 aA) λ_ _ _ _ _=>aA
def IE(c:bt)(n:Nat)(a b:V)(d:S):ax:=
 bQ ec 45 d λe f=>cX c 67 [a] f λa f=>cX c 67 [b] f λb f=>cX c 66 [a,b] f λa b=>bq 4 e a b λ_ a=>bB d a [bf 4 a e]
theorem Vx{O:bo}(h:O 28=none):bz O funcs types 28 (bh IE):=.bh h (bn Tryz.func28 aA) λ_ _ _ _ _=>aA
def NU(c:bt)(n:Nat)(a:V)(b:S):ax:=
 dO c 9 [a,(ab 6)] b λa d=>aw (λ_ e=>aF (bW [(ab 0),(ab 0)] []) λf=>aF (bW [(ab 0),(ab 0)] [(0,1,(ab 6))]) λg=>aF (bW [(ab
 0),(ab 0)] [(0,1,(ab 6)),(1,1,(ab 1))]) λh=>aF (bW [(ab 0),(ab 0)] [(1,1,(ab 1))]) λi=>ha 2 4 82 (cC 4 [(ab 0),(ab 0)]) [(0,2,f),(2,
 2,g),(4,2,h),(6,2,i)] e λe f=>bB b f [some e,some (ab 1)]) λe=>ay .eql a (ab 0) λf=>aw (λ_ g=>e [] g) λe=>aW f ( aF (bW [(ab 0),
 (ab 0)] []) λf=>aF (bW [(ab 0),(ab 0)] [(0,1,(ab 4))]) λg=>aF (bW [(ab 0),(ab 0)] [(0,1,(ab 4)),(1,1,(ab 2))]) λh=>aF (bW [(ab
 0),(ab 0)] [(1,1,(ab 2))]) λi=>ha 2 4 82 (cC 4 [(ab 0),(ab 0)]) [(0,2,f),(2,2,g),(4,2,h),(6,2,i)] d λf g=>bB b g [some f,some (ab 2)]) ( ay .eql
 a (ab 1) λf=>aw (λ_ g=>e [] g) λe=>aW f ( aF (bW [(ab 0),(ab 0)] []) λf=>aF (bW [(ab 0),(ab 0)] [(0,1,(ab 2))]) λg=>aF (bW
 [(ab 0),(ab 0)] [(0,1,(ab 2)),(1,1,(ab 2))]) λh=>aF (bW [(ab 0),(ab 0)] [(1,1,(ab 2))]) λi=>ha 2 4 82 (cC 4 [(ab 0),(ab 0)]) [(0,2,
 f),(2,2,g),(4,2,h),(6,2,i)] d λf g=>bB b g [some f,some (ab 2)]) ( ay .eql a (ab 2) λf=>aw (λ_ g=>e [] g) λe=>aW f ( aF (bW [(ab 0),
 (ab 0)] []) λf=>aF (bW [(ab 0),(ab 0)] [(0,1,(ab 4))]) λg=>aF (bW [(ab 0),(ab 0)] [(1,1,(ab 3))]) λh=>ha 2 3 82 (cC 3 [(ab 0),(ab
 0)]) [(0,2,f),(2,2,g),(4,2,h)] d λf g=>bB b g [some f,some (ab 0)]) ( ay .eql a (ab 3) λf=>aw (λ_ g=>e [] g) λe=>aW f ( aF (bW [(ab 0),
 (ab 0)] []) λf=>aF (bW [(ab 0),(ab 0)] [(0,1,(ab 6))]) λg=>aF (bW [(ab 0),(ab 0)] [(0,1,(ab 3)),(1,1,(ab 4))]) λh=>ha 2 3 82 (cC
 3 [(ab 0),(ab 0)]) [(0,2,f),(2,2,g),(4,2,h)] d λf g=>bB b g [some f,some (ab 0)]) ( ay .eql a (ab 4) λa=>aw (λ_ f=>e [] f) λe=>aW a ( aF
 (bW [(ab 0),(ab 0)] []) λa=>aF (bW [(ab 0),(ab 0)] [(0,1,(ab 8))]) λf=>aF (bW [(ab 0),(ab 0)] [(0,1,(ab 8)),(1,1,(ab 1))]) λg
 =>aF (bW [(ab 0),(ab 0)] [(0,1,(ab 4)),(1,1,(ab 4))]) λh=>aF (bW [(ab 0),(ab 0)] [(1,1,(ab 1))]) λi=>ha 2 5 82 (cC 5 [(ab 0),(ab
 0)]) [(0,2,a),(2,2,f),(4,2,g),(6,2,h),(8,2,i)] d λa f=>bB b f [some a,some (ab 0)]) ( e [] d)))))
theorem agi{O:bo}(h:O 30=none):bz O funcs types 30 (cN NU):=.cN h (bn Tryz.func30 aA) λ_ _ _ _=>aA
def NY(c:bt)(n:Nat)(a:V)(b:S):ax:=
 b0 28 a b λa d=>bQ [(ab 0),.af,.af,.af] 33 d λd e=>bd e (a6 0 a) λe f g=>dQ f e λe f h=>dp (ga none f (eT (some ([e].flatMap cp.cc))
 f (fP e))) λe f i=>kM f (some []) (some []) (eV types 30 e e (aN f)) λe f j=>bd f (a6 0 a) λf k l=>dQ k f λf k m=>dp (ga none k (eT (some
 ([f].flatMap cp.cc)) k (fP f))) λf k o=>kM k (some []) (some []) (eV types 30 f f (aN k)) λf k p=>bd k (bW [(ab 0),.af,.af,.af] [(1,1,
 e),(2,1,f)]) λe f k=>lT [(ab 0),.af,.af,.af] 33 f λf q r=>dx 4 f e q λ_ e q=>dX [0,1,3,7,0,16,48,112,255,0,1023] [g,h,i,j,l,m,o,p,
 k,r,q] <| aw (λg h=>bP 4 h (an g) λi=>bq 4 (aD g) i h λ_ h=>e5 true b h [bf 4 h (aD g)]) λb=>cT n (λg h i=>br 1 (aD h) i λj=>
 cr j λj=>ay .lss (an h) j λj=>aw (λk l=>aw (λm o=>ay .add (an m) (ab 1) λp=>g (p::kL m) o) λg=>br 3 (aU k) l λm=>ha 1 1
 4 (cC 1 [(.bool false)]) [(0,1,(.bool true))] l λl o=>iW A5 4 m l o λl m=>hv 3 (aU k) λo=>bq 1 o l m λ_ l=>g (gA k) l) λg=>aW j ( g (gA
 h) i) ( b [(aU h),(bm h)] i)) [(ab 0),a,f,d] e
theorem agm{O:bo}(h:O 35=none):bz O funcs types 35 (cN NY):=.cN h (bn Tryz.func35 aA) λ_ _ _ _=>aA
def N2(c:bt)(n:Nat)(a b d e f g:V)(h:S):ax:=
 b0 28 a h λa i=>b0 33 b i λb i=>bQ mo 49 i λi j=>bP 4 j a λk=>cX c 84 [k,d,f] j λd j=>aF (dS 0 d) λk=>aF (dS 1 d) λd=>bQ
 gG 47 j λj l=>bQ ec 45 l λl m=>bq 8 j k m λ_ k=>bq 4 l d k λ_ d=>bP 4 d a λk=>cX c 84 [k,e,f] d λd e=>aF (dS 0 d) λk=>aF (dS
 1 d) λd=>bQ gG 47 e λe l=>bQ ec 45 l λl m=>bq 8 e k m λ_ k=>bq 4 l d k λ_ d=>bd d (a6 1 a) λd k l=>dQ k d λd k m=>dD k f λk
 o p=>bd o (dW 18 d k) λd k o=>bd k (a6 0 d) λd k q=>dQ k d λd k r=>b7 4 k a λa k s=>bd k (a6 1 b) λb k t=>dQ k b λb k u=>dD k f λ
 f k v=>bS c 75 [a,b,f] k λa b f=>b7 8 b j λb j k=>b7 8 j e λe j w=>dD j g λg j x=>bS c 85 [d,a,b,e,g] j λa b d=>dx 16 i a b λ_ a b=>
 dX [0,1,0,7,15,31,0,0,128,0,960,0,0,0,16383,32767] [l,m,p,o,q,r,s,t,u,v,f,k,w,x,d,b] <| bB h a [bf 16 a i]
theorem agq{O:bo}(h:O 40=none):bz O funcs types 40 (uk N2):=.uk h (bn Tryz.func40 aA) λ_ _ _ _ _ _ _ _ _=>aA
def N3(c:bt)(n:Nat)(a b:V)(d:S):ax:=
 b0 49 a d λa e=>b0 49 b e λb e=>bP 16 e a λf=>hn 0 b 8 e λg=>dO c 91 [f,g] e λe f=>az e true (bf 16 f a) λa=>az e true (a6 8 b) λ
 b=>az e true (bf 8 f b) λb=>bZ (gJ e true (cJ c false false (.fn 91 [] []) [a,b] f) f) λa b=>aF (di e a (.bool false)) λa=>cY d b a
theorem agr{O:bo}(h:O 44=none):bz O funcs types 44 (bh N3):=.bh h (bn Tryz.func44 aA) λ_ _ _ _ _=>aA
def IT(c:bt)(n:Nat)(a b:V)(d:S):ax:=
 cr a λe=>cr b λf=>ay .neq e f λe=>aw (λf g=>aw (λ_ h=>cY d h (.bool true)) λh=>cT n (λi j k=>cr (aD j) λl=>ay .lss (an
 j) l λl=>aw (λm o=>aw (λp q=>ay .add (an p) (ab 1) λr=>i (r::lS p) q) λi=>eG 1 (aD m) (an m) o λp=>eG 1 (aU m) (an m) o λ
 q=>ay .neq p q λp=>aw (λq r=>i (fT q) r) λi=>aW p ( cY d o (.bool false)) ( i (fT m) o)) λi=>aW l ( i (fT j) k) ( h [] k)) ((ab 0)::iX
 f) g) λf=>aW e ( cY d d (.bool false)) ( f [a,b] d)
theorem VK{O:bo}(h:O 47=none):bz O funcs types 47 (bh IT):=.bh h (bn Tryz.func47 aA) λ_ _ _ _ _=>aA
def IX(c:bt)(n:Nat)(a b:V)(d:S):ax:=
 b0 108 b d λb e=>cr a λf=>aw (λg h=>cY d h (an g)) λd=>cT n (λg h i=>ay .lss (an h) (aD h) λj=>aw (λk l=>aw (λm o=>ay .add
 (an m) (ab 1) λp=>g (p::mO m) o) λg=>ke 16 (aU k) (an k) l λm=>bQ mo 108 l λl o=>bq 16 l m o λ_ m=>bP 16 m l λl=>bP 16 m (bm
 k) λo=>dO c 93 [l,o] m λl m=>aw (λo p=>g (iY o) p) λg=>aW l ( ha 1 1 3 (cC 1 [(ab 0)]) [(0,1,(an k))] m λl o=>iW g3 3 (bY k) l o
 λl o=>g [(an k),(aD k),(aU k),(bm k),l] o) ( g (iY k) m)) λg=>aW j ( g (iY h) i) ( d [(bY h)] i)) [(ab 0),f,a,b,.af] e
theorem VO{O:bo}(h:O 51=none):bz O funcs types 51 (bh IX):=.bh h (bn Tryz.func51 aA) λ_ _ _ _ _=>aA
def Wk(c:bt)(n:Nat)(a:V)(b:S):ax:=
 dO c 108 [a,(ab 1)] b λd e=>aF (dS 0 d) λf=>aF (dS 1 d) λg=>aF (dS 2 d) λd=>aF (bH .neq (aJ.get types 58) d (ab 0)) λh=>aw (λi
 j=>aw (λk l=>bB b l [some (an k),some (aD k),some (ab 0)]) λk=>cT n (λl m o=>ay .lss (an m) (aD m) λp=>aw (λq r=>aw (λs t=>ay .add
 (an s) (ab 1) λu=>l (u::mO s) t) λl=>aF (jn 1 (bY q) (some (aD q)) none none) λs=>dO c 109 [s] r λr s=>aF (dS 0 r) λt=>aF (dS
 1 r) λu=>aF (dS 2 r) λr=>aF (bH .neq (aJ.get types 58) r (ab 0)) λv=>aw (λw x=>ha 1 1 3 (cC 1 [(ab 0)]) [(0,1,(aD w))] x λx y=>iW g3
 3 (an w) x y λx y=>ay .add (aU w) (bm w) λz=>l [(bY w),(dd w),(eS w),x,z] y) λl=>aW v ( bB b s [some .af,some (ab 0),some r]) ( l [(an
 q),t,(aD q),u,(aU q),(bm q),(bY q)] s)) λl=>aW p ( l [(bm m),(bY m),(an m),(aD m),(aU m)] o) ( k [(bm m),(bY m)] o)) [(ab 0),(an
 i),(aD i),.af,(aU i)] j) λi=>aW h ( bB b e [some .af,some (ab 0),some d]) ( i [f,a,g] e)
theorem agy{O:bo}(h:O 64=none):bz O funcs types 64 (cN Wk):=.cN h (bn Tryz.func64 aA) λ_ _ _ _=>aA
def IZ(c:bt)(n:Nat)(a:V)(b:S):ax:=
 bQ [(.bool false),.af] 43 b λd e=>ay .lss a (ab 0) λf=>aw (λg h=>cX c 116 (iX g) h λh i=>bq 2 (aU g) h i λ_ h=>bB b h [bf 2 h (aU
 g)]) λb=>cT n (λg h i=>ay .neq (an h) (ab 0) λj=>aw (λk l=>aw (λm o=>g (gA m) o) λg=>ay .rem (aD k) (ab 1000000000) λm=>ay .lss
 m (ab 0) λo=>aw (λp q=>ha 1 1 3 (cC 1 [(ab 0)]) [(0,1,(aD p))] q λq r=>iW g3 3 (an p) q r λq r=>ay .quo (aU p) (ab 1000000000) λs=>
 g [s,(bm p),q,(bY p)] r) λg=>aW o ( aF (un .neg m) λo=>g [(an k),o,(aD k),(aU k),(bm k)] l) ( g [(an k),m,(aD k),(aU k),(bm
 k)] l)) λg=>aW j ( g [(aU h),(an h),(aD h),(bm h)] i) ( b (kL h) i)) [a,f,.af,d] e
theorem VQ{O:bo}(h:O 67=none):bz O funcs types 67 (cN IZ):=.cN h (bn Tryz.func67 aA) λ_ _ _ _=>aA
def I1(c:bt)(n:Nat)(a:V)(b:S):ax:=
 b0 45 a b λa d=>bQ [(.bool false),.af] 43 d λd e=>hv 2 a λf=>br 1 f e λf=>cr f λf=>ay .eql f (ab 0) λf=>aw (λg h=>hn 2 (an
 g) 2 h λi=>bq 2 (aD g) i h λ_ h=>bB b h [bf 2 h (aD g)]) λg=>aW f ( cX c 67 [(ab 1)] e λf h=>bq 2 d f h λ_ f=>bB b f [bf 2 f d]) ( g
 [a,d] e)
theorem VS{O:bo}(h:O 69=none):bz O funcs types 69 (cN I1):=.cN h (bn Tryz.func69 aA) λ_ _ _ _=>aA
def N8(c:bt)(n:Nat)(a:V)(b:S):ax:=
 aw (λ_ d=>e5 true b d [some (.bool true)]) λd=>cT n (λe f g=>cr (aD f) λh=>ay .lss (an f) h λh=>aw (λi j=>aw (λk l=>ay .add (an
 k) (ab 1) λm=>e [m,(aD k)] l) λe=>ke 4 (aD i) (an i) j λk=>dO c 111 [k] j λj k=>aF (un .not j) λj=>aw (λl m=>e (iX l) m) λe=>
 aW j ( e5 true b k [some (.bool false)]) ( e (iX i) k)) λe=>aW h ( e (iX f) g) ( d [] g)) [(ab 0),a] b
theorem agA{O:bo}(h:O 71=none):bz O funcs types 71 (cN N8):=.cN h (bn Tryz.func71 aA) λ_ _ _ _=>aA
def N9(c:bt)(n:Nat)(a:V)(b:S):ax:=
 b0 45 a b λa d=>hn 0 a 2 d λa=>dO c 120 [a] d λa d=>cY b d a
theorem agB{O:bo}(h:O 72=none):bz O funcs types 72 (cN N9):=.cN h (bn Tryz.func72 aA) λ_ _ _ _=>aA
def Oe(c:bt)(n:Nat)(a b:V)(d:S):ax:=
 aw (λe f=>aw (λg h=>aw (λi j=>cY d j (an i)) λi=>cT n (λj k l=>cr (bm k) λm=>ay .lss (an k) m λm=>aw (λo p=>aw (λq r=>
 ay .add (an q) (ab 1) λs=>j (s::mO q) r) λj=>aw (λq r=>aw (λs t=>j (iY s) t) λj=>aW (an q) ( dD r (dd q) λs t u=>dD t (bY
 q) λt v w=>dD v (aD q) λv x y=>bd x (dW 3 t v) λt v x=>b7 3 v t λt v z=>dD v (aU q) λv A B=>dD A (bY q) λA aQ cB=>dD aQ (aD q) λ
 aQ F G=>bd F (dW 3 A aQ) λA aQ F=>b7 3 aQ A λA aQ H=>bS c 127 [v,A] aQ λv A aQ=>dD A (bm q) λA I e4=>dD I (bY q) λI K L=>dD K (aD q) λK
 M N=>bd M (dW 3 I K) λI K M=>b7 3 K I λI K O=>bS c 126 [I] K λI K P=>bS c 127 [A,I] K λA I K=>bd I (bH .add cD v A) λv A I=>bd A (bW [(ab
 0),(ab 0),(ab 0),(ab 0)] [(0,3,t),(3,1,v)]) λt v A=>kM v (some []) (some []) (fl 4 1 190 (cC 1 [(ab 0),(ab 0),(ab 0),(ab 0)]) [(0,4,t)] (aN v))
 λt v Q=>kM v (some ([s,t].flatMap cp.cc)) (some (cp.cc s)) (fD Tj 190 s t (aN v)) λs t v=>dD t s λs t R=>dX [0,0,0,6,14,0,0,0,192,448,
 992,0,0,0,12288,28672,63456,131040,262112,524286,1048574,2097151,4194303] [u,w,y,x,z,B,cB,G,F,H,aQ,e4,L,N,M,O,P,K,I,A,Q,v,R] <| j [(aD q),(aU q),
 (bm q),(bY q),s] t) ( j (rG q) r)) λj=>cT n (λq r s=>ay .lss (an r) (aU r) λt=>aw (λu v=>aw (λw x=>ay .add (an w) (ab 1) λy
 =>q (y::qa w) x) λq=>az (an u) true (some (dd u)) λw=>az (an u) true (some (aD u)) λx=>az (an u) true (dW 3 w x) λw=>az (an u) true
 (bf 3 v w) λw=>az (an u) true (some (dd u)) λx=>az (an u) true (some (aU u)) λy=>az (an u) true (dW 3 x y) λx=>az (an u) true (bf 3
 v x) λx=>az (an u) true (bH .neq (aJ.get types 94) w x) λw=>aF (di (an u) w (.bool false)) λw=>q [(aD u),w,(aU u),(bm u),(bY u),(dd
 u),(eS u)] v) λq=>aW t ( q [(aD r),(an r),(aU r),(bm r),(bY r),(dd r),(eS r)] s) ( j (qa r) s)) [(ab 0),(.bool true),(an o),(aD
 o),(aU o),(bm o),(bY o)] p) λj=>aW m ( j (iY k) l) ( i [(bY k)] l)) [(ab 0),(an g),(aD g),(aU g),.af] h) λg=>cT n (λh i j=>cr
 (aU i) λk=>ay .lss (an i) k λk=>aw (λl m=>aw (λo p=>ay .add (an o) (ab 1) λq=>h (q::kL o) p) λh=>dD m (bm l) λm o p=>dD
 o (aD l) λo q r=>bd q (dW 2 m o) λm o q=>b7 2 o m λm o s=>dD o (bm l) λo t u=>dD t (aD l) λt v w=>bS c 125 [o,t] v λo t v=>bS c
 124 [m,o] t λm o t=>dD o m λm o x=>bd o (dS 0 m) λo y z=>bd y (dS 1 m) λm y A=>lT [(ab 0),(ab 0),(ab 0)] 94 y λy B aQ=>dx 3 y o B λ_
 o B=>dD o m λ_ m o=>dX [0,0,3,7,0,0,48,127,255,511,511,0,3071,8191] [p,r,q,s,u,w,v,t,x,z,A,aQ,B,o] <| bP 3 m y λo=>cX c 126 [o] m λm
 o=>ha 3 1 94 (cC 1 [(ab 0),(ab 0),(ab 0)]) [(0,3,m)] o λm o=>iW MF 94 (an l) m o λm o=>h [(aD l),(aU l),(bm l),m] o) λh=>aW k (
 h [(bm i),(an i),(aD i),(aU i)] j) ( g (kL i) j)) ((ab 0)::fT e) f) λe=>cT n (λf g h=>cr (aD g) λi=>ay .lss (an g) i λi=>aw
 (λj k=>aw (λl m=>ay .add (an l) (ab 1) λo=>f (o::kL l) m) λf=>dD k (aU j) λk l m=>dD l (aD j) λl o p=>bd o (dW 2 k l) λk l
 o=>b7 2 l k λk l q=>dD l (aU j) λl r s=>dD r (aD j) λr t u=>bS c 125 [l,r] t λl r t=>bS c 124 [k,l] r λk l r=>dD l k λk l v=>bd
 l (dS 0 k) λl w x=>bd w (dS 1 k) λk w y=>lT [(ab 0),(ab 0),(ab 0)] 94 w λw z A=>dx 3 w l z λ_ l z=>dD l k λ_ k l=>dX [0,0,3,7,0,0,
 48,127,255,511,511,0,3071,8191] [m,p,o,q,s,u,t,r,v,x,y,A,z,l] <| bP 3 k w λl=>ha 3 1 94 (cC 1 [(ab 0),(ab 0),(ab 0)]) [(0,3,l)] k λk l=>
 iW MF 94 (an j) k l λk l=>f [(aD j),(aU j),(bm j),k] l) λf=>aW i ( f [(bm g),(an g),(aD g),(aU g)] h) ( e (kL g) h)) [(ab 0),a,
 b,.af] d
theorem agG{O:bo}(h:O 77=none):bz O funcs types 77 (bh Oe):=.bh h (bn Tryz.func77 aA) λ_ _ _ _ _=>aA
def Oj(c:bt)(n:Nat)(a b d:V)(e:S):ax:=
 b0 28 a e λa f=>bQ gG 47 f λf g=>bQ ec 45 g λg h=>aF (bW gG []) λi=>bQ gG 47 h λh j=>bq 8 h i j λ_ i=>aF (bW ec []) λ
 j=>bQ ec 45 i λi k=>bq 4 i j k λ_ j=>br 1 a j λa=>hV 18 a d λa=>br 9 a j λa=>aw (λd k=>b7 8 k (an d) λk l m=>b7 4 l (aD d)
 λl o p=>dx 8 (aU d) k o λ_ k o=>dx 4 (bm d) l k λ_ k l=>dX [0,0,1,7] [m,p,o,l] <| e5 true e k [bf 8 k (aU d),bf 4 k (bm d)]) λd=>cT
 n (λe k l=>cr (aD k) λm=>ay .lss (an k) m λm=>aw (λo p=>aw (λq r=>ay .add (an q) (ab 1) λs=>e (s::qa q) r) λe=>ke 13 (aD
 o) (an o) p λq=>bQ [(ab 0),(.bool false),.af,(.bool false),.af,(.bool false),.af,(.bool false),.af,(.bool false),.af,(.bool false),.af] 132 p λ
 p r=>bq 13 p q r λ_ q=>b7 8 q (bm o) λq r s=>dD r (aU o) λr t u=>bd t (a6 0 p) λt v w=>dQ v t λt v x=>bd v (dW 4 r t) λr t v=>b7
 4 t r λr t y=>bd t (a6 1 p) λt z A=>b7 4 z t λt z B=>bd z (a6 5 p) λz aQ cB=>b7 4 aQ z λz aQ F=>bd aQ (bW gG [(0,4,t),(4,4,z)]) λt z aQ=>
 bS c 122 [r,t] z λr t z=>bS c 121 [q,r] t λq r t=>dx 8 (bm o) q r λ_ q r=>dX [0,0,0,4,14,30,0,64,0,256,960,2046,4095,8191] [s,u,w,x,v,y,
 A,B,cB,F,aQ,z,t,r] <| b7 4 q (bY o) λq r s=>dD r (aU o) λr t u=>bd t (a6 0 p) λt v w=>dQ v t λt v x=>bd v (dW 4 r t) λr t v=>b7 4 t
 r λr t y=>bd t (a6 9 p) λp t z=>b7 4 t p λp t A=>bS c 83 [r,p] t λp r t=>bS c 33 [q,p] r λp q r=>dx 4 (bY o) p q λ_ p q=>dX [0,0,0,
 4,14,30,0,64,254,511,1023] [s,u,w,x,v,y,z,A,t,r,q] <| e (pA o) p) λe=>aW m ( e (pA k) l) ( d [(bm k),(bY k),(dd k),(eS k)] l)) [(ab 0),
 a,b,h,i,f,g] j
theorem agL{O:bo}(h:O 84=none):bz O funcs types 84 (hA Oj):=.hA h (bn Tryz.func84 aA) λ_ _ _ _ _ _=>aA
def I8(c:bt)(n:Nat)(a b:V)(d:S):ax:=
 b0 45 a d λa e=>b0 45 b e λb e=>hn 0 a 2 e λf=>hn 0 b 2 e λg=>dO c 133 [f,g] e λe f=>az e true (some (.fn 133 [] [])) λg=>az e true (a6
 2 a) λa=>az e true (bf 2 f a) λa=>az e true (a6 2 b) λb=>az e true (bf 2 f b) λb=>bZ (gJ e true (cJ c false false g [a,b] f) f) λa b=>aF
 (di e a (.bool false)) λa=>cY d b a
theorem VZ{O:bo}(h:O 88=none):bz O funcs types 88 (bh I8):=.bh h (bn Tryz.func88 aA) λ_ _ _ _ _=>aA
def I9(c:bt)(n:Nat)(a b d e f:V)(g:S):ax:=
 b0 47 b g λb h=>b0 47 d h λd h=>b0 47 e h λe h=>bQ mo 108 h λh i=>cr a λj=>ay .eql j (ab 0) λj=>aw (λk l=>bQ gG 199 l λl
 m=>bQ gG 199 m λm o=>bP 4 o (.ptr 0 0) λp=>aw (λq r=>aF (nR 2 4 (an q) (ab 0)) λs=>bP 4 r s λs=>aF (nR 2 4 (an q) (ab 1)) λt
 =>bP 4 r t λt=>aF (bW gG [(0,4,s),(4,4,t)]) λs=>aF (nR 2 4 (aD q) (ab 0)) λt=>bP 4 r t λt=>aF (nR 2 4 (aD q) (ab 1)) λu=>
 bP 4 r u λu=>aF (bW gG [(0,4,t),(4,4,u)]) λt=>aF (bW mo [(0,8,s),(8,8,t)]) λs=>bq 16 (aU q) s r λ_ r=>bB g r [bf 16 r (aU
 q)]) λg=>cT n (λq r s=>ay .lss (an r) (ab 2) λt=>aw (λu v=>aw (λw x=>ay .add (an w) (ab 1) λy=>q (y::LH w) x) λq=>aF (C5
 2 2 (aD u) (an u)) λw=>bQ [.pB,.pB] 203 v λv x=>bq 2 v w x λ_ w=>aF (n2 136 [] [v]) λx=>cX c 135 [(aU u),x] w λw x=>bQ [(ab 0),
 (ab 0)] 82 x λx y=>bq 2 x w y λ_ w=>aF (n2 139 [] [v]) λy=>cX c 138 [(aU u),y] w λw y=>bQ [(ab 0),(ab 0)] 82 y λy z=>bq 2 y w z λ
 _ w=>bd w (a6 0 v) λw z A=>dQ z w λw z B=>b7 8 z (bm u) λz aQ cB=>dp (ga none aQ (et c w [z] aQ)) λw z aQ=>bd z (a6 0 v) λz F G=>dQ F z
 λz F H=>b7 8 F (bY u) λF I e4=>dp (ga none I (et c z [F] I)) λz F I=>bd F (a6 0 v) λF K L=>dQ K F λF K M=>b7 8 K (dd u) λK N O=>dp
 (ga none N (et c F [K] N)) λF K N=>dD K (eS u) λK P Q=>bS c 140 [w,z,F,K] P λw z F=>dD z w λw z K=>bd z (dS 0 w) λz P R=>bd P (dS 1 w)
 λw P S=>lT ec 45 P λP T b3=>lT ec 45 T λT V W=>dx 4 P z V λ_ z V=>dx 4 T w z λ_ w z=>dX [0,1,0,7,0,16,0,127,0,256,0,2047,0,8191,16383,
 32767,32767,0,0,458751,1048575] [A,B,cB,aQ,G,H,e4,I,L,M,O,N,Q,F,K,R,S,b3,W,V,z] <| dD w (an u) λw z A=>b7 4 z P λz B aQ=>bd B (a6 1 v) λB
 cB F=>dQ cB B λB cB G=>b7 2 cB x λx cB H=>dp (ga none cB (et c B [x] cB)) λx B cB=>bS c 142 [x,(ab 1)] B λx B I=>bS c 141 [z,x] B λx z B=>bd
 z (nR 2 4 (ik u) w) λw z e4=>dx 4 w x z λ_ w x=>dX [0,0,0,4,0,28,60,126,255,511] [A,aQ,F,G,H,cB,I,B,e4,x] <| dD w (an u) λw x z=>b7 4 x T
 λx A B=>bd A (a6 1 v) λv A aQ=>dQ A v λv A cB=>b7 2 A y λy A F=>dp (ga none A (et c v [y] A)) λv y A=>bS c 142 [v,(ab 1)] y λv y G=>bS
 c 141 [x,v] y λv x y=>bd x (nR 2 4 (mn u) w) λw x H=>dx 4 w v x λ_ v w=>dX [0,0,0,4,0,28,60,126,255,511] [z,B,aQ,cB,F,A,G,y,H,w] <| q (RK
 u) v) λq=>aW t ( q (RK r) s) ( g [(ik r),(mn r),(oe r)] s)) [(ab 0),p,(an k),(aD k),(aU k),(bm k),(bY k),l,m,(dd k)] o) λg=>
 aW j ( aF (bW [(ab 0),(ab 0)] []) λj=>ha 2 1 82 (cC 1 [(ab 0),(ab 0)]) [(0,2,j)] i λj k=>g [j,b,d,e,f,h] k) ( g [a,b,d,e,f,h] i)
theorem V0{O:bo}(h:O 89=none):bz O funcs types 89 (vz I9):=.vz h (bn Tryz.func89 aA) λ_ _ _ _ _ _ _ _=>aA
def V6(c:bt)(n:Nat)(a:V)(b:S):ax:=
 ay .lss a (ab 0) λd=>aw (λe f=>aw (λg h=>cr (an g) λi=>ay .geq (aD g) (ab 0) λj=>aw (λk l=>ay .sub (an k) (ab 1) λm=>aw (λ
 o p=>cY b p (an o)) λo=>cT n (λp q r=>ay .geq (an q) (ab 0) λs=>aw (λt u=>aw (λv w=>ay .sub (an v) (ab 1) λx=>p (x::kL v)
 w) λp=>eG 1 (aU t) (aD t) u λv=>ay .lss (bm t) (ab 0) λw=>aw (λx y=>ha 1 1 5 (cC 1 [(.int .u8 0)]) [(0,1,(aD x))] y λy z=>iW x0 5
 (an x) y z λy z=>p [(aU x),(bm x),(bY x),y] z) λp=>aW w ( aF (bH .sub (aJ.get types 5) (.int .u8 255) v) λw=>p [(an t),w,(aD t),(aU
 t),(bm t)] u) ( p [(an t),v,(aD t),(aU t),(bm t)] u)) λp=>aW s ( p [(bm q),(an q),(aD q),(aU q)] r) ( o [(bm q)] r)) (m::kL k) l)
 λk=>aW j ( ay .add (ab 128) i λj=>aF (mc .u8 j) λj=>ha 1 1 5 (cC 1 [(.int .u8 0)]) [(0,1,j)] h λj l=>iW x0 5 .af j l λj l=>k [i,(an
 g),(aD g),j] l) ( ay .sub (ab 127) i λj=>aF (mc .u8 j) λj=>ha 1 1 5 (cC 1 [(.int .u8 0)]) [(0,1,j)] h λh j=>iW x0 5 .af h j λh j=>k [i,(an
 g),(aD g),h] j)) λg=>cT n (λh i j=>ay .gtr (an i) (ab 0) λk=>aw (λl m=>aw (λo p=>h (fT o) p) λh=>ay .rem (aD l) (ab 256) λo
 =>aF (mc .u8 o) λo=>ha 1 1 5 (cC 1 [(.int .u8 0)]) [(0,1,o)] m λm o=>iW x0 5 (an l) m o λm o=>ay .quo (aD l) (ab 256) λp=>h [p,m,(aU
 l)] o) λh=>aW k ( h [(aD i),(an i),(aU i)] j) ( g (lS i) j)) [(an e),.af,(aD e)] f) λe=>aW d ( ay .sub (ab (-1)) a λd=>e [d,a] b) (
 e [a,a] b)
theorem afF{O:bo}(h:O 101=none):bz O funcs types 101 (cN V6):=.cN h (bn Tryz.func101 aA) λ_ _ _ _=>aA
def V8(c:bt)(n:Nat)(a b:V)(d:S):ax:=
 bZ (c6 d (n1 types 70 9 a (aN d))) λa e=>bZ (c6 e (n1 types 70 9 b (aN e))) λb e=>aF (bH .eql (aJ.get types 9) a b) λa=>cY d e a
theorem afH{O:bo}(h:O 107=none):bz O funcs types 107 (bh V8):=.bh h (bn Tryz.func107 aA) λ_ _ _ _ _=>aA
def Wa(c:bt)(n:Nat)(a:V)(b:S):ax:=
 cr a λd=>ay .eql d (ab 0) λd=>aw (λe f=>eG 1 (an e) (ab 0) f λg=>aF (mc .i64 g) λg=>ay .lss g (ab 119) λh=>az h false (some g)
 λi=>az h false (bH .gtr cD i (ab 136)) λi=>aF (di h (.bool true) i) λh=>aw (λi j=>ay .sub (an i) (ab 128) λk=>ay .lss (an i) (ab 128)
 λl=>aw (λm o=>cr (aD m) λp=>ay .add (aU m) (ab 1) λq=>ay .lss p q λp=>aw (λq r=>aw (λs t=>ay .lss (an s) (ab 128) λu=>aw
 (λv w=>ij c 101 [(aD v)] w λw x=>ay .add (aU v) (ab 1) λy=>aF (jn 1 (an v) none (some y) none) λy=>ij c 23 [w,y] x λw x=>aF (un .not
 w) λw=>aw (λy z=>ay .add (aD y) (ab 1) λA=>bB b z [some (an y),some A,some (ab 0)]) λy=>aW w ( bB b x [some (ab 0),some (ab 0),some (ab
 2)]) ( y (lS v) x)) λv=>aW u ( ay .sub (ab (-1)) (aD s) λu=>v [(aU s),u,(bm s)] t) ( v [(aU s),(aD s),(bm s)] t)) λs=>cT n (λt u
 v=>ay .leq (an u) (bY u) λw=>aw (λx y=>aw (λz A=>ay .add (an z) (ab 1) λB=>t (B::mO z) A) λt=>eG 1 (bm x) (aD x) y λz=>aF
 (mc .i64 z) λz=>ay .lss (aU x) (ab 128) λA=>aw (λB aQ=>ay .gtr (an B) (ab 36028797018963967) λcB=>aw (λF G=>ay .mul (ab 256) (an F) λ
 H=>ay .add H (aD F) λH=>t [(aU F),(bm F),H,(bY F),(dd F)] G) λt=>aW cB ( bB b aQ [some (ab 0),some (ab 0),some (ab 2)]) ( t (kd B) aQ))
 λt=>aW A ( ay .sub (ab 255) z λA=>t [(an x),A,(aD x),(aU x),(bm x),(bY x)] y) ( t [(an x),z,(aD x),(aU x),(bm x),(bY x)] y))
 λt=>aW w ( t [(aU u),(an u),(aD u),(bm u),(bY u)] v) ( s (mO u) v)) [(ab 1),(an q),(ab 0),(aD q),(aU q)] r) λq=>aW p ( bB b
 o [some (ab 0),some (ab 0),some (ab 3)]) ( q (fT m) o)) λm=>aW l ( ay .sub (ab 127) (an i) λl=>m [(an i),(aD i),l] j) ( m [(an i),(aD i),
 k] j)) λi=>aW h ( bB b f [some (ab 0),some (ab 0),some (ab 2)]) ( i [g,(an e)] f)) λe=>aW d ( bB b b [some (ab 0),some (ab 0),some (ab 3)]) (
 e [a] b)
theorem afJ{O:bo}(h:O 109=none):bz O funcs types 109 (cN Wa):=.cN h (bn Tryz.func109 aA) λ_ _ _ _=>aA
def Hz(c:bt)(n:Nat)(a:V)(b:S):ax:=
 b0 45 a b λa d=>hn 0 a 2 d λe=>dO c 160 [e] d λd e=>aF (un .not d) λd=>az d false (a6 2 a) λf=>az d false (bf 2 e f) λf=>bZ (gJ d
 false (cJ c false false (.fn 160 [] []) [f] e) e) λe f=>az d false (un .not e) λe=>aF (di d (.bool true) e) λd=>az d false (a6 2 a) λe=>az d false
 (a6 0 e) λe=>az d false (cZ f e) λe=>aF (di d (.bool true) e) λd=>az d false (a6 2 a) λe=>az d false (bf 2 f e) λe=>bZ (gJ d false (cJ
 c false false (.fn 115 [] []) [e] f) f) λe f=>aF (di d (.bool true) e) λd=>aw (λe g=>hv 2 (an e) λh=>br 1 h g λh=>cr h λh=>ay .eql h (ab
 0) λh=>aw (λi j=>hn 0 (an i) 2 j λk=>hn 2 (an i) 2 j λi=>dO c 112 [k,i] j λi j=>dO c 115 [i] j λi j=>cY b j i) λi=>aW h ( cY
 b g (.bool true)) ( i [(an e)] g)) λe=>aW d ( cY b f (.bool false)) ( e [a] f)
theorem Uv{O:bo}(h:O 111=none):bz O funcs types 111 (cN Hz):=.cN h (bn Tryz.func111 aA) λ_ _ _ _=>aA
def HC(c:bt)(n:Nat)(a:V)(b:S):ax:=
 b0 43 a b λa d=>bQ [(.bool false),.af] 43 d λd e=>br 0 a e λf=>aF (un .not f) λf=>br 1 a e λa=>cX c 116 [f,a] e λa e=>bq 2 d a e λ
 _ a=>bB b a [bf 2 a d]
theorem Uy{O:bo}(h:O 114=none):bz O funcs types 114 (cN HC):=.cN h (bn Tryz.func114 aA) λ_ _ _ _=>aA
def HI(c:bt)(n:Nat)(a:V)(b:S):ax:=
 b0 43 a b λa d=>bP 2 d a λa=>aF (bW [(.bool false),.af] []) λe=>dO c 128 [a,e] d λa d=>cY b d a
theorem UE{O:bo}(h:O 120=none):bz O funcs types 120 (cN HI):=.cN h (bn Tryz.func120 aA) λ_ _ _ _=>aA
def Nt(c:bt)(n:Nat)(a b:V)(d:S):ax:=
 b0 47 a d λa e=>b0 47 b e λb e=>bQ gG 47 e λe f=>bd f (a6 0 a) λf g h=>b7 4 g f λf g i=>bd g (a6 0 b) λg j k=>b7 4 j g λg j l=>
 bS c 33 [f,g] j λf g j=>bd g (a6 4 a) λa g m=>b7 4 g a λa g o=>bd g (a6 4 b) λb g p=>b7 4 g b λb g q=>bS c 33 [a,b] g λa b g=>bd b (bW
 gG [(0,4,f),(4,4,a)]) λa b f=>dx 8 e a b λ_ a b=>dX [0,1,0,4,15,0,32,0,128,511,1023,2047] [h,i,k,l,j,m,o,p,q,g,f,b] <| bB d a [bf 8 a e]
theorem afL{O:bo}(h:O 121=none):bz O funcs types 121 (bh Nt):=.bh h (bn Tryz.func121 aA) λ_ _ _ _ _=>aA
def Nu(c:bt)(n:Nat)(a b:V)(d:S):ax:=
 b0 45 a d λa e=>b0 47 b e λb e=>bQ gG 47 e λe f=>b7 4 f a λf g h=>bd g (a6 0 b) λg i j=>b7 4 i g λg i k=>bS c 83 [f,g] i λf g i=>
 b7 4 g a λa g l=>bd g (a6 4 b) λb g m=>b7 4 g b λb g o=>bS c 83 [a,b] g λa b g=>bd b (bW gG [(0,4,f),(4,4,a)]) λa b f=>dx 8 e a b λ
 _ a b=>dX [0,0,2,7,0,0,32,127,255,511] [h,j,k,i,l,m,o,g,f,b] <| bB d a [bf 8 a e]
theorem afM{O:bo}(h:O 122=none):bz O funcs types 122 (bh Nu):=.bh h (bn Tryz.func122 aA) λ_ _ _ _ _=>aA
def Ny(c:bt)(n:Nat)(a:V)(b:S):ax:=
 b0 94 a b λa d=>bQ [(ab 0),(ab 0),(ab 0)] 94 d λd e=>br 0 a e λf=>aF (un .neg f) λf=>br 1 a e λg=>aF (un .neg g) λg=>br 2 a e
 λa=>aF (bW [(ab 0),(ab 0),(ab 0)] [(0,1,f),(1,1,g),(2,1,a)]) λa=>bq 3 d a e λ_ a=>bB b a [bf 3 a d]
theorem afQ{O:bo}(h:O 126=none):bz O funcs types 126 (cN Ny):=.cN h (bn Tryz.func126 aA) λ_ _ _ _=>aA
def HR(c:bt)(n:Nat)(a b:V)(d:S):ax:=
 bQ [(ab 0),(ab 0)] 82 d λe f=>cr a λg=>ay .lss g (ab 1) λg=>aw (λh i=>ke 2 (aD h) (ab 0) i λj=>bQ [(ab 0),(ab 0)] 82 i λi k=>
 bq 2 i j k λ_ j=>aw (λk l=>bP 2 l (an k) λm=>bq 2 (aD k) m l λ_ l=>bB d l [bf 2 l (aD k)]) λd=>cT n (λk l m=>cr (aU l) λo
 =>ay .lss (an l) o λo=>aw (λp q=>aw (λr s=>ay .add (an r) (ab 1) λt=>k (t::mO r) s) λk=>ke 2 (aU p) (an p) q λr=>bP 2 q (bm
 p) λs=>bZ (cJ c true false (aD p) [r,s] q) λq r=>ay .gtr q (ab 0) λq=>aw (λs t=>k (iY s) t) λk=>aW q ( ke 2 (aU p) (an p) r λ
 q=>bq 2 (bm p) q r λ_ q=>k (iY p) q) ( k (iY p) r)) λk=>aW o ( k (iY l) m) ( d [(bm l),(bY l)] m)) [(ab 1),(an h),(aD h),i,(aU h)]
 j) λd=>aW g ( none) ( d [b,a,e] f)
theorem UN{O:bo}(h:O 138=none):bz O funcs types 138 (bh HR):=.bh h (bn Tryz.func138 aA) λ_ _ _ _ _=>aA
def HS(c:bt)(n:Nat)(a b d:V)(e:S):ax:=
 b0 82 a e λa f=>b0 82 b f λb f=>br 1 d f λg=>bP 2 f a λa=>bZ (cJ c true false g [a] f) λa f=>br 1 d f λd=>bP 2 f b λb=>bZ (cJ
 c true false d [b] f) λb d=>ij c 137 [a,b] d λa b=>cY e b a
theorem UO{O:bo}(h:O 139=none):bz O funcs types 139 (hA HS):=.hA h (bn Tryz.func139 aA) λ_ _ _ _ _ _=>aA
def HU(c:bt)(n:Nat)(a b d e:V)(f:S):ax:=
 b0 45 a f λa g=>b0 45 b g λb g=>b0 45 d g λd g=>bQ ec 45 g λg h=>bQ ec 45 h λh i=>aF (mq true [e,(ab 0)]) λe=>cX c 142 [e,(ab
 1)] i λe i=>bQ ec 45 i λi j=>bq 4 i e j λ_ e=>bP 4 e a λj=>bP 4 e b λk=>bP 4 e d λl=>bP 4 e i λm=>dO c 174 [j,k,l,m] e λe j
 =>ha 4 1 45 (cC 1 ec) [(0,4,e)] j λe j=>bP 4 j b λk=>bP 4 j d λl=>cX c 176 [k,l] j λj k=>cX c 175 [j] k λj k=>bQ ec 45 k λk l=>
 bq 4 k j l λ_ j=>bP 4 j d λl=>dO c 177 [l] j λj l=>ay .neq j (ab 0) λj=>az j true (bf 4 l k) λm=>bZ (gJ j true (cJ c false false (.fn
 177 [] []) [m] l) l) λl m=>az j true (bH .gtr cD l (ab 0)) λl=>aF (di j l (.bool false)) λj=>az j true (bf 4 m k) λl=>az j true (bf 4 m i) λ
 i=>bZ (gJ j true (cJ c false false (.fn 147 [] []) [l,i] m) m) λi l=>az j true (bH .lss cD i (ab 0)) λi=>aF (di j i (.bool false)) λi=>aw (λ
 j m=>bP 4 m (an j) λo=>cX c 132 [o,(aD j)] m λm o=>aF (dS 0 m) λp=>aF (dS 1 m) λm=>bq 4 (aU j) p o λ_ o=>bq 4 (bm j) m o λ
 _ m=>bB f m [bf 4 m (aU j),bf 4 m (bm j)]) λf=>aW i ( bP 4 l a λi=>bP 4 l b λb=>bP 4 l d λd=>bP 4 l k λj=>cX c 174 [i,b,d,j] l
 λb d=>ha 4 1 45 (cC 1 ec) [(0,4,b)] d λb d=>iW A6 45 e b d λb d=>f [a,b,g,h] d) ( f [a,e,g,h] l)
theorem UQ{O:bo}(h:O 140=none):bz O funcs types 140 (qw HU):=.qw h (bn Tryz.func140 aA) λ_ _ _ _ _ _ _=>aA
def HY(c:bt)(n:Nat)(a b:V)(d:S):ax:=
 b0 47 a d λa e=>b0 47 b e λb e=>bQ gG 47 e λe f=>bd f (a6 0 a) λf g h=>b7 4 g f λf g i=>bd g (a6 0 b) λg j k=>b7 4 j g λg j l=>
 bS c 141 [f,g] j λf g j=>bd g (a6 4 a) λa g m=>b7 4 g a λa g o=>bd g (a6 4 b) λb g p=>b7 4 g b λb g q=>bS c 141 [a,b] g λa b g=>bd b
 (bW gG [(0,4,f),(4,4,a)]) λa b f=>dx 8 e a b λ_ a b=>dX [0,1,0,4,15,0,32,0,128,511,1023,2047] [h,i,k,l,j,m,o,p,q,g,f,b] <| bB d a [bf
 8 a e]
theorem UU{O:bo}(h:O 144=none):bz O funcs types 144 (bh HY):=.bh h (bn Tryz.func144 aA) λ_ _ _ _ _=>aA
def HZ(c:bt)(n:Nat)(a b:V)(d:S):ax:=
 dO c 184 [a,b] d λa b=>ay .geq a (ab 0) λa=>cY d b a
theorem UW{O:bo}(h:O 145=none):bz O funcs types 145 (bh HZ):=.bh h (bn Tryz.func145 aA) λ_ _ _ _ _=>aA
def H7(c:bt)(n:Nat)(a:V)(b:S):ax:=
 b0 43 a b λa d=>aw (λe f=>br 1 (an e) f λg=>cr g λg=>ay .eql g (ab 0) λg=>aw (λh i=>br 1 (an h) i λj=>br 1 (an h) i λh
 =>cr h λh=>ay .sub h (ab 1) λh=>eG 1 j h i λh=>ay .neq h (ab 0) λh=>cY b i h) λh=>aW g ( br 0 (an e) f λg=>aF (un .not g) λ
 g=>cY b f g) ( h [(an e)] f)) λe=>cT n (λf g h=>br 1 (aD g) h λi=>cr i λi=>ay .lss (an g) i λi=>aw (λj k=>aw (λl m=>ay .add
 (an l) (ab 1) λo=>f [o,(aD l)] m) λf=>br 1 (aD j) k λl=>eG 1 l (an j) k λl=>ay .lss l (ab 0) λl=>az l false (a6 1 (aD j)) λm
 =>az l false (cZ k m) λm=>az l false (some (an j)) λo=>az l false (dW 1 m o) λm=>az l false (cZ k m) λm=>az l false (bH .geq cD m (ab 1000000000))
 λm=>aF (di l (.bool true) m) λl=>aw (λm o=>f (iX m) o) λf=>aW l ( cY b k (.bool false)) ( f (iX j) k)) λb=>aW i ( b (iX g) h) ( e [(aD
 g)] h)) [(ab 0),a] d
theorem U3{O:bo}(h:O 160=none):bz O funcs types 160 (cN H7):=.cN h (bn Tryz.func160 aA) λ_ _ _ _=>aA
def NK(c:bt)(n:Nat)(a b d e:V)(f:S):ax:=
 b0 45 a f λa g=>b0 45 b g λb g=>b0 45 d g λd g=>b0 45 e g λe g=>bQ ec 45 g λg h=>bP 4 h e λi=>bP 4 h e λj=>cX c 83 [i,j] h λ
 h i=>cX c 28 [(ab 1),(ab 2)] i λi j=>cX c 83 [h,i] j λh i=>bQ ec 45 i λi j=>bq 4 i h j λ_ h=>b7 4 h a λa h j=>b7 4 h b λb h k=>
 b7 4 h e λe h l=>bS c 83 [b,e] h λb e h=>b7 4 e d λd e m=>b7 4 e i λe i o=>bS c 83 [d,e] i λd e i=>bS c 33 [b,d] e λb d e=>bS c 33 [a,
 b] d λa b d=>dx 4 g a b λ_ a b=>dX [0,0,0,6,0,0,62,126,255,511] [j,k,l,h,m,o,i,e,d,b] <| bB f a [bf 4 a g]
theorem af2{O:bo}(h:O 169=none):bz O funcs types 169 (qw NK):=.qw h (bn Tryz.func169 aA) λ_ _ _ _ _ _ _=>aA
def Ic(c:bt)(n:Nat)(a:V)(b:S):ax:=
 ay .neq a a λa=>cY b b a
theorem U8{O:bo}(h:O 173=none):bz O funcs types 173 (cN Ic):=.cN h (bn Tryz.func173 aA) λ_ _ _ _=>aA
def Ip(c:bt)(n:Nat)(a b:V)(d:S):ax:=
 b0 45 a d λa e=>b0 45 b e λb e=>bQ ec 45 e λe f=>hv 0 a λg=>br 1 g f λg=>cr g λg=>ay .eql g (ab 0) λg=>az g false (a6 0 b) λ
 h=>az g false (a6 1 h) λh=>az g false (cZ f h) λh=>az g false (fP h) λh=>az g false (bH .eql cD h (ab 0)) λh=>aF (di g (.bool true) h) λ
 g=>aw (λh i=>hv 2 (aD h) λj=>br 1 j i λj=>cr j λj=>ay .eql j (ab 0) λj=>az j true (a6 2 (an h)) λk=>az j true (a6 1 k) λk=>
 az j true (cZ i k) λk=>az j true (fP k) λk=>az j true (bH .eql cD k (ab 0)) λk=>aF (di j k (.bool false)) λj=>aw (λk l=>bd l (a6 0 (aD
 k)) λl m o=>b7 2 m l λl m p=>b7 4 m (an k) λm q r=>bS c 179 [m] q λm q s=>bS c 180 [l,m] q λl m q=>bd m (a6 0 (an k)) λm t u=>b7 2
 t m λm t v=>b7 4 t (aD k) λt w x=>bS c 179 [t] w λt w y=>bS c 180 [m,t] w λm t w=>lT ec 45 t λt z A=>lT ec 45 z λz B aQ=>dx 4 t l B
 λ_ l B=>dx 4 z m l λ_ l m=>dX [0,1,0,4,15,0,32,0,159,511,0,0,4095,8191] [o,p,r,s,q,u,v,x,y,w,A,aQ,B,m] <| bd l (a6 0 t) λl m o=>b7 2
 m l λl m p=>bd m (a6 0 z) λm q r=>b7 2 q m λm q s=>bS c 181 [l,m] q λl m q=>b7 4 m t λm t u=>bS c 179 [m] t λm t v=>b7 4 t z λt w x=>
 bS c 179 [t] w λt w y=>bS c 181 [m,t] w λm t w=>bS c 198 [l,m] t λl m t=>dx 4 (aU k) l m λ_ l m=>dX [0,1,0,4,15,0,63,0,255,511,1023,2047]
 [o,p,r,s,q,u,v,x,y,w,t,m] <| bB d l [bf 4 l (aU k)]) λk=>aW j ( hn 0 (aD h) 2 i λj=>hn 0 (an h) 2 i λl=>cX c 181 [j,l] i λj l=>
 aF (bW ec [(0,2,j)]) λj=>bq 4 (aU h) j l λ_ j=>bB d j [bf 4 j (aU h)]) ( k (fT h) i)) λh=>aW g ( aF (bW ec []) λg=>bq 4 e g
 f λ_ g=>bB d g [bf 4 g e]) ( h [b,a,e] f)
theorem Vi{O:bo}(h:O 183=none):bz O funcs types 183 (bh Ip):=.bh h (bn Tryz.func183 aA) λ_ _ _ _ _=>aA
end Go.ah.X
