/-
  A part: lemmas; conditions: those that each names.
-/
import Derived.Test.YtalmddmghdinkaaGreatDoorO
set_option linter.all false
set_option linter.deprecated false
noncomputable section
set_option maxRecDepth 100000
namespace Go.ah.X
open Go Go.ah Go.Proofs Go.Proofs.dI
def N7(c:bt)(n:Nat)(a:V)(b:S):ax:=
 bQ lx 37 b λd e=>dO c 39 [a] e λe f=>cX c 29 [a,(ab 0),(ab 6)] f λf g=>cX c 29 [a,(ab 1),(ab 20)] g λg h=>aF (bW lx [(0,1,f),
 (1,1,g)]) λf=>bQ lx 37 h λg h=>bq 5 g f h λ_ f=>bd f (a6 1 g) λf h i=>dQ h f λf h j=>dD h a λh k l=>bS c 29 [h,(ab 2),(ab 9)] k
 λh k m=>bd k (bH .add cD f h) λf h k=>bd h (a6 2 g) λh o p=>dx 1 h f o λ_ f h=>dX [0,1,0,4,15,31,63] [i,j,l,m,k,p,h] <| aw (λh i=>bP
 5 i (an h) λj=>bq 5 (aD h) j i λ_ i=>bB b i [bf 5 i (aD h)]) λb=>cT n (λh i j=>cr (bm i) λk=>ay .lss (aD i) k λk=>az k true
 (some (aD i)) λl=>az k true (bH .lss cD l (ab 4)) λl=>aF (di k l (.bool false)) λk=>aw (λl m=>aw (λo p=>ay .add (an o) (ab 1) λq=>
 h [(aD o),q,(aU o),(bm o),(bY o),(dd o)] p) λh=>ay .add (an l) (ab 1) λo=>ay .add (ab 3) (aD l) λp=>dO c 29 [(aU l),p,(ab
 3)] m λm p=>ay .add o m λm=>br 3 (bY l) p λo=>ha 1 1 3 (cC 1 [(ab 0)]) [(0,1,m)] p λp q=>iW g3 3 o p q λo p=>hv 3 (bY l) λq=>bq
 1 q o p λ_ o=>br 4 (bY l) o λp=>ke 16 (bm l) (aD l) o λq=>ha 16 1 49 (cC 1 mo) [(0,16,q)] o λo q=>iW qR 49 p o q λo p=>hv 4 (bY
 l) λq=>bq 1 q o p λ_ o=>h [(aD l),m,(aU l),(bm l),(bY l),(dd l)] o) λh=>aW k ( h (kd i) j) ( b [(bY i),(dd i)] j)) [(ab (-1)),(ab
 0),a,e,g,d] f
theorem agz{O:bo}(h:O 7=none):bz O funcs types 7 (cN N7):=.cN h (bn Tryz.func7 aA) λ_ _ _ _=>aA
def Hy(c:bt)(n:Nat)(a b d:V)(e:S):ax:=
 b0 28 a e λa f=>b0 33 b f λb f=>b0 55 d f λd f=>b7 5 f d λf g h=>bS c 41 [f] g λf g i=>bd g (un .not f) λf g j=>dD g f λf g k=>dp
 (ga (some (f,false)) g (eT (some []) g (a6 3 d))) λg l m=>dp (ga (some (f,false)) l (eT (some (cp.cc g)) l (cZ l g))) λg l o=>dp (ga (some (f,
 false)) l (eT (some ([g].flatMap cp.cc)) l (fP g))) λg l p=>dp (ga (some (f,false)) l (eT (some []) l (bH .gtr cD g (ab 0)))) λg l q=>dp (ga (some
 (f,false)) l (xD l g)) λg l r=>dp (ga (some (g,true)) l (eT (some []) l (a6 3 d))) λl s t=>dp (ga (some (g,true)) s (eT (some (cp.cc l)) s (cZ
 s l))) λl s u=>dp (ga (some (g,true)) s (eT (some []) s (a6 3 d))) λs v w=>dp (ga (some (g,true)) v (eT (some (cp.cc s)) v (cZ v s))) λs v x=>
 dp (ga (some (g,true)) v (eT (some ([s].flatMap cp.cc)) v (fP s))) λs v y=>dp (ga (some (g,true)) v (eT (some []) v (bH .sub cD s (ab 1)))) λs
 v z=>dp (ga (some (g,true)) v (eT (some []) v (dW 1 l s))) λl s v=>dp (ga (some (g,true)) s (eT (some (cp.cc l)) s (cZ s l))) λl s A=>dp (ga
 (some (g,true)) s (eT (some []) s (a6 1 a))) λs B aQ=>dp (ga (some (g,true)) B (eT (some (cp.cc s)) B (cZ B s))) λs B cB=>dp (ga (some (g,true)) B
 (eT (some ([s].flatMap cp.cc)) B (fP s))) λs B F=>dp (ga (some (g,true)) B (eT (some []) B (bH .geq cD l s))) λl s B=>dp (ga (some (f,false)) s
 (eT (some []) s (di g l (.bool false)))) λg l s=>bd l (di f (.bool true) g) λf g l=>dX [0,1,3,7,15,31,63,127,255,511,1023,511,2559,6655,14847,32767,
 65535,511,131583,393727,1048575,2097151,4194303] [h,i,j,k,m,o,p,q,r,t,u,w,x,y,z,v,A,aQ,cB,F,B,s,l] <| aw (λh i=>br 0 (aU h) i λj=>br 1 (an
 h) i λk=>ay .lss j k λj=>az j false (a6 0 (aU h)) λk=>az j false (cZ i k) λk=>az j false (a6 2 (an h)) λl=>az j false (cZ i l) λl=>
 az j false (bH .gtr cD k l) λk=>aF (di j (.bool true) k) λj=>aw (λk l=>br 3 (an k) l λm=>cr m λo=>aw (λ_ p=>cY e p (.bool true)) λ
 p=>cT n (λq r s=>ay .lss (an r) (aD r) λt=>aw (λu v=>aw (λw x=>ay .add (an w) (ab 1) λy=>q (y::rG w) x) λq=>eG 1 (aU u) (an
 u) v λw=>br 3 (dd u) v λx=>eG 1 x w v λx=>az x true (a6 4 (bm u)) λy=>az x true (cZ v y) λy=>az x true (some (an u)) λz=>az x true
 (dW 16 y z) λy=>az x true (bf 16 v y) λy=>az x true (bf 4 v (bY u)) λz=>az x true (bf 4 v (dd u)) λA=>az x true (some w) λw=>bZ (gJ x
 true (cJ c true false (.fn 43 [] []) [z,A,w] v) v) λv w=>bZ (gJ x true (cJ c true false (.fn 42 [] []) [y,v] w) w) λv w=>az x true (un .not v) λv=>aF
 (di x v (.bool false)) λv=>aw (λx y=>q (kd x) y) λq=>aW v ( cY e w (.bool false)) ( q (kd u) w)) λq=>aW t ( q (kd r) s) ( p [] s)) [(ab 0),
 o,m,(an k),(aD k),(aU k)] l) λk=>aW j ( cY e i (.bool true)) ( k (fT h) i)) λh=>aW f ( cY e g (.bool false)) ( h [d,a,b] g)
theorem Uu{O:bo}(h:O 11=none):bz O funcs types 11 (hA Hy):=.hA h (bn Tryz.func11 aA) λ_ _ _ _ _ _=>aA
def NA(c:bt)(n:Nat)(a b d:V)(e:S):ax:=
 b0 28 a e λa f=>b0 33 b f λb f=>b0 37 d f λd f=>bP 5 f d λg=>dO c 18 [g] f λf g=>aF (un .not f) λf=>aw (λh i=>aw (λj k=>aw (λ
 _ l=>cY e l (.bool true)) λl=>cT n (λm o p=>br 3 (bm o) p λq=>cr q λq=>ay .lss (an o) q λq=>aw (λr s=>aw (λt u=>ay .add (an
 t) (ab 1) λv=>m (v::kL t) u) λm=>br 0 (aU r) s λt=>br 1 (bm r) s λu=>ay .geq t u λt=>az t true (a6 0 (aU r)) λu=>az t true (cZ
 s u) λu=>az t true (a6 2 (bm r)) λv=>az t true (cZ s v) λv=>az t true (bH .leq cD u v) λu=>aF (di t u (.bool false)) λt=>az t true (a6
 3 (aU r)) λu=>az t true (cZ s u) λu=>az t true (a6 3 (bm r)) λv=>az t true (cZ s v) λv=>az t true (some (an r)) λw=>az t true (dW 1 v
 w) λv=>az t true (cZ s v) λv=>az t true (dW 1 u v) λu=>az t true (cZ s u) λu=>aF (di t u (.bool false)) λt=>az t true (a6 4 (bm r)) λ
 u=>az t true (cZ s u) λu=>az t true (some (an r)) λv=>az t true (dW 16 u v) λu=>az t true (bf 16 s u) λu=>az t true (bf 4 s (aD r)) λv=>
 az t true (bf 4 s (aU r)) λw=>az t true (a6 3 (bm r)) λx=>az t true (cZ s x) λx=>az t true (some (an r)) λy=>az t true (dW 1 x y) λx=>
 az t true (cZ s x) λx=>bZ (gJ t true (cJ c true false (.fn 10 [] []) [v,w,x] s) s) λs v=>bZ (gJ t true (cJ c true false (.fn 44 [] []) [u,s] v) v) λ
 s u=>az t true (un .not s) λs=>aF (di t s (.bool false)) λs=>aw (λt v=>m (gA t) v) λm=>aW s ( cY e u (.bool false)) ( m (gA r) u)) λm=>
 aW q ( m (gA o) p) ( l [] p)) ((ab 0)::fT j) k) λj=>cT n (λk l m=>br 3 (bm l) m λo=>cr o λo=>ay .lss (an l) o λo=>aw (λp q=>
 aw (λr s=>ay .add (an r) (ab 1) λt=>k (t::kL r) s) λk=>bd q (a6 3 (bm p)) λq r s=>dQ r q λq r t=>dD r (an p) λr u v=>bd u (dW
 1 q r) λq r u=>dQ r q λq r w=>bd r (a6 1 (aD p)) λr x y=>dQ x r λr x z=>dp (ga none x (eT (some ([r].flatMap cp.cc)) x (fP r))) λr x
 A=>bd x (bH .geq cD q r) λq r x=>dX [0,1,0,7,15,0,32,96,255] [s,t,v,u,w,y,z,A,x] <| aw (λs t=>k (gA s) t) λk=>aW q ( cY e r (.bool false))
 ( k (gA p) r)) λk=>aW o ( k (gA l) m) ( j (kL l) m)) ((ab 0)::fT h) i) λh=>aW f ( cY e g (.bool false)) ( h [a,b,d] g)
theorem afS{O:bo}(h:O 13=none):bz O funcs types 13 (hA NA):=.hA h (bn Tryz.func13 aA) λ_ _ _ _ _ _=>aA
def Ib(c:bt)(n:Nat)(a:V)(b:S):ax:=
 b0 55 a b λa d=>bQ lx 37 d λd e=>br 0 a e λf=>br 1 a e λg=>br 2 a e λh=>br 3 a e λi=>aF (bW lx [(0,1,f),(1,1,g),(2,1,h),
 (3,1,i)]) λf=>bQ lx 37 e λe g=>bq 5 e f g λ_ f=>aw (λg h=>bP 5 h (an g) λi=>bq 5 (aD g) i h λ_ h=>bB b h [bf 5 h (aD g)]) λb
 =>cT n (λg h i=>br 4 (aD h) i λj=>cr j λj=>ay .lss (an h) j λj=>aw (λk l=>aw (λm o=>ay .add (an m) (ab 1) λp=>g (p::kL
 m) o) λg=>br 4 (aU k) l λm=>br 4 (aD k) l λo=>hV 16 o (an k) λo=>hn 0 o 8 l λo=>br 4 (aD k) l λp=>hV 16 p (an k) λp=>hn
 8 p 8 l λp=>aF (bW mo [(0,8,o),(8,8,p)]) λo=>ha 16 1 49 (cC 1 mo) [(0,16,o)] l λl o=>iW qR 49 m l o λl m=>hv 4 (aU k) λo=>bq
 1 o l m λ_ l=>g (gA k) l) λg=>aW j ( g (gA h) i) ( b [(aU h),(bm h)] i)) [(ab 0),a,e,d] f
theorem U7{O:bo}(h:O 17=none):bz O funcs types 17 (cN Ib):=.cN h (bn Tryz.func17 aA) λ_ _ _ _=>aA
def NV(c:bt)(n:Nat)(a b d e f g:V)(h:S):ax:=
 b0 28 a h λa i=>bQ Da 28 i λi j=>ay .rem f (ab 3) λk=>ay .add (ab 1) k λk=>cX c 28 [(ab 1),k] j λj k=>bQ ec 45 k λk l=>bq 4
 k j l λ_ j=>ay .quo f (ab 3) λl=>ay .rem l (ab 3) λl=>ay .add (ab 1) l λl=>aF (un .neg l) λl=>cX c 28 [l,(ab 8)] j λj l=>bQ ec
 45 l λl m=>bq 4 l j m λ_ j=>br 0 a j λm=>cr m λm=>cX c 34 [d] j λd j=>cX c 34 [e] j λe j=>aF (bW gG [(0,4,d),(4,4,e)]) λd=>
 ay .quo f (ab 9) λe=>ay .rem e (ab 4) λe=>cX c 28 [e,(ab 2)] j λe j=>ay .quo f (ab 36) λf=>ay .rem f (ab 3) λf=>cX c 28 [f,(ab 2)]
 j λf j=>aF (bW [.af,(.bool false),.af,(.bool false),.af,(.bool false),.af,(.bool false),.af,.af,(.bool false),.af,(.bool false),.af,(.bool false),.af,
 (.bool false),.af] [(0,1,b),(1,8,d),(10,4,e),(14,4,f)]) λb=>bQ [.af,(.bool false),.af,(.bool false),.af,(.bool false),.af,(.bool false),.af,.af,
 (.bool false),.af,(.bool false),.af,(.bool false),.af,(.bool false),.af] 88 j λd e=>bq 18 d b e λ_ b=>br 0 a b λe=>bP 4 b k λf=>aF (bW
 [(.bool false),.af,(.bool false),.af,(.bool false),.af,(.bool false),.af,(.bool false),(.bool false),.af,(.bool false),.af,(.bool false),.af,(.bool false),.af]
 [(0,4,f)]) λf=>bP 4 b k λj=>bP 4 b l λk=>aF (bW [(.bool false),.af,(.bool false),.af,(.bool false),.af,(.bool false),.af,(.bool false),(.bool
 false),.af,(.bool false),.af,(.bool false),.af,(.bool false),.af] [(0,4,j),(4,4,k)]) λj=>ha 17 2 130 (cC 2 [(.bool false),.af,(.bool false),.af,
 (.bool false),.af,(.bool false),.af,(.bool false),(.bool false),.af,(.bool false),.af,(.bool false),.af,(.bool false),.af]) [(0,17,f),(17,17,j)] b λb
 f=>iW G4 130 e b f λb e=>hv 0 a λf=>bq 1 f b e λ_ b=>cX c 34 [(ab 1)] b λb e=>aF (bW [(ab 0),(.bool false),.af,(.bool false),.af,
 (.bool false),.af,(.bool false),.af,(.bool false),.af,(.bool false),.af] [(0,1,m),(1,4,b)]) λb=>ay .add m (ab 1) λf=>cX c 34 [(ab 1)] e λe
 j=>aF (bW [(ab 0),(.bool false),.af,(.bool false),.af,(.bool false),.af,(.bool false),.af,(.bool false),.af,(.bool false),.af] [(0,1,f),(5,4,e)])
 λe=>ha 13 2 132 (cC 2 [(ab 0),(.bool false),.af,(.bool false),.af,(.bool false),.af,(.bool false),.af,(.bool false),.af,(.bool false),.af]) [(0,13,
 b),(13,13,e)] j λb e=>hv 9 d λf=>bq 1 f b e λ_ b=>aw (λe f=>br 1 (aD e) f λj=>bP 18 f (an e) λk=>ha 18 1 88 (cC 1 [.af,(.bool false),.af,
 (.bool false),.af,(.bool false),.af,(.bool false),.af,.af,(.bool false),.af,(.bool false),.af,(.bool false),.af,(.bool false),.af]) [(0,18,k)] f λ
 f k=>iW G5 88 j f k λf j=>hv 1 (aD e) λk=>bq 1 k f j λ_ f=>bP 4 f (aD e) λj=>bq 4 (aU e) j f λ_ f=>e5 true h f [bf 4 f (aU e)])
 λe=>aW g ( bd b (a6 0 a) λf g h=>dQ g f λf g j=>bS c 28 [(ab 2),(ab 1)] g λg k l=>bd k (bW [(.bool false),.af,(.bool false),.af,(.bool
 false),.af,(.bool false),.af,(.bool false),(.bool false),.af,(.bool false),.af,(.bool false),.af,(.bool false),.af] [(0,4,g)]) λg k o=>kM k (some [])
 (some []) (fl 17 1 130 (cC 1 [(.bool false),.af,(.bool false),.af,(.bool false),.af,(.bool false),.af,(.bool false),(.bool false),.af,(.bool false),.af,
 (.bool false),.af,(.bool false),.af]) [(0,17,g)] (aN k)) λg k p=>kM k (some ([f,g].flatMap cp.cc)) (some (cp.cc f)) (fD G4 130 f g (aN k)) λf
 g k=>bd g (a6 0 a) λg q r=>dx 1 g f q λ_ f g=>dX [0,1,0,4,12,31,63,127] [h,j,l,o,p,k,r,g] <| bd f (a6 9 d) λf g h=>dQ g f λf g j=>dD
 g m λg k l=>bd k (bH .add cD g (ab 2)) λg k m=>bS c 34 [(ab 1)] k λk o p=>bd o (bW [(ab 0),(.bool false),.af,(.bool false),.af,(.bool false),.af,
 (.bool false),.af,(.bool false),.af,(.bool false),.af] [(0,1,g),(9,4,k)]) λg k o=>kM k (some []) (some []) (fl 13 1 132 (cC 1 [(ab 0),(.bool false),.af,
 (.bool false),.af,(.bool false),.af,(.bool false),.af,(.bool false),.af,(.bool false),.af]) [(0,13,g)] (aN k)) λg k q=>kM k (some ([f,g].flatMap cp.cc))
 (some (cp.cc f)) (fD Ti 132 f g (aN k)) λf g k=>bd g (a6 9 d) λg r s=>dx 1 g f r λ_ f g=>dX [0,1,0,4,0,28,60,127,255,511] [h,j,l,m,p,
 o,q,k,s,g] <| e [d,a,i] f) ( e [d,a,i] b)
theorem agj{O:bo}(h:O 31=none):bz O funcs types 31 (uk NV):=.uk h (bn Tryz.func31 aA) λ_ _ _ _ _ _ _ _ _=>aA
def NZ(c:bt)(n:Nat)(a:V)(b:S):ax:=
 b0 33 a b λa d=>bQ [(ab 0),.af,.af,.af] 33 d λd e=>br 0 a e λf=>aF (bW [(ab 0),.af,.af,.af] [(0,1,f)]) λf=>bQ [(ab 0),.af,.af,.af]
 33 e λe g=>bq 4 e f g λ_ f=>br 1 e f λg=>br 1 a f λh=>iW A6 45 g h f λf g=>hv 1 e λh=>bq 1 h f g λ_ f=>br 2 e f λg=>br 2 a
 f λh=>iW A6 45 g h f λf g=>hv 2 e λh=>bq 1 h f g λ_ f=>br 3 e f λg=>br 3 a f λa=>iW A5 4 g a f λa f=>hv 3 e λg=>bq 1 g a f
 λ_ a=>bP 4 a e λe=>bq 4 d e a λ_ a=>e5 true b a [bf 4 a d]
theorem agn{O:bo}(h:O 36=none):bz O funcs types 36 (cN NZ):=.cN h (bn Tryz.func36 aA) λ_ _ _ _=>aA
def Ob(c:bt)(n:Nat)(a b:V)(d:S):ax:=
 b0 47 a d λa e=>b0 47 b e λb e=>bQ gG 47 e λe f=>b7 8 f a λa f g=>bS c 28 [(ab (-1)),(ab 1)] f λf h i=>b7 8 h b λb h j=>bS c 122
 [f,b] h λb f h=>bS c 121 [a,b] f λa b f=>dx 8 e a b λ_ a b=>dX [0,0,0,6,15,31] [g,i,j,h,f,b] <| bB d a [bf 8 a e]
theorem agD{O:bo}(h:O 74=none):bz O funcs types 74 (bh Ob):=.bh h (bn Tryz.func74 aA) λ_ _ _ _ _=>aA
def Oc(c:bt)(n:Nat)(a b d:V)(e:S):ax:=
 b0 28 a e λa f=>bQ gG 47 f λf g=>bP 4 g a λh=>cX c 84 [h,b,d] g λb g=>aF (dS 0 b) λh=>aF (dS 1 b) λb=>bQ gG 47 g λg i=>bQ
 ec 45 i λi j=>bq 8 g h j λ_ h=>bq 4 i b h λ_ b=>bd b (a6 1 a) λa b h=>dQ b a λa b i=>dD b d λb d j=>bd d (dW 18 a b) λa b d=>bd
 b (a6 1 a) λa b k=>b7 8 b a λa b l=>b7 8 b g λb g m=>bS c 121 [a,b] g λa b g=>dx 8 f a b λ_ a b=>dX [0,1,0,7,15,31,0,127,255] [h,i,j,
 d,k,l,m,g,b] <| e5 true e a [bf 8 a f]
theorem agE{O:bo}(h:O 75=none):bz O funcs types 75 (hA Oc):=.hA h (bn Tryz.func75 aA) λ_ _ _ _ _ _=>aA
def Oh(c:bt)(n:Nat)(a b:V)(d:S):ax:=
 b0 45 a d λa e=>b0 45 b e λb e=>bQ ec 45 e λe f=>bd f (a6 0 a) λf g h=>b7 2 g f λf g i=>b7 4 g b λg j k=>bS c 69 [g] j λg j l=>bS
 c 68 [f,g] j λf g j=>b7 4 g a λa g m=>bS c 69 [a] g λa g o=>bd g (a6 0 b) λb g p=>b7 2 g b λb g q=>bS c 68 [a,b] g λa b g=>bS c 66 [f,a]
 b λa b f=>dx 4 e a b λ_ a b=>dX [0,1,0,4,15,0,63,0,128,511,1023,2047] [h,i,k,l,j,m,o,p,q,g,f,b] <| bB d a [bf 4 a e]
theorem agJ{O:bo}(h:O 80=none):bz O funcs types 80 (bh Oh):=.bh h (bn Tryz.func80 aA) λ_ _ _ _ _=>aA
def Ol(c:bt)(n:Nat)(a b:V)(d:S):ax:=
 b0 49 a d λa e=>b0 47 b e λb e=>bP 16 e a λa=>bP 8 e b λf=>bP 8 e b λb=>aF (bW mo [(0,8,f),(8,8,b)]) λb=>dO c 52 [a,b] e λ
 a b=>cY d b a
theorem agN{O:bo}(h:O 91=none):bz O funcs types 91 (bh Ol):=.bh h (bn Tryz.func91 aA) λ_ _ _ _ _=>aA
def Jc(c:bt)(n:Nat)(a b:V)(d:S):ax:=
 cr a λe=>aw (λ_ f=>cY d f (ab (-1))) λf=>cT n (λg h i=>ay .lss (an h) (aD h) λj=>aw (λk l=>aw (λm o=>ay .add (an m) (ab 1)
 λp=>g (p::kL m) o) λg=>ke 16 (bm k) (an k) l λm=>bZ (cJ c false false (aU k) [m] l) λl m=>aw (λo p=>g (gA o) p) λg=>aW l (
 cY d m (an k)) ( g (gA k) m)) λg=>aW j ( g (gA h) i) ( f [] i)) [(ab 0),e,b,a] d
theorem V3{O:bo}(h:O 92=none):bz O funcs types 92 (bh Jc):=.bh h (bn Tryz.func92 aA) λ_ _ _ _ _=>aA
def Jd(c:bt)(n:Nat)(a b:V)(d:S):ax:=
 b0 108 a d λa e=>b0 108 b e λb e=>aF (nU types 204 (.ptr 0 0) none none none) λf=>aF (n2 146 [] [a,b]) λa=>dO c 145 [f,a] e λa b=>aF
 (un .not a) λa=>cY d b a
theorem V4{O:bo}(h:O 93=none):bz O funcs types 93 (bh Jd):=.bh h (bn Tryz.func93 aA) λ_ _ _ _ _=>aA
def HE(c:bt)(n:Nat)(a b:V)(d:S):ax:=
 bQ [(.bool false),.af] 43 d λe f=>cr b λg=>aw (λh i=>ay .eql (aU h) (ab 0) λj=>aw (λk l=>aF (jn 1 (aD k) none (some (aU k)) none) λ
 m=>aF (bW [(.bool false),.af] [(0,1,(an k)),(1,1,m)]) λm=>bq 2 (bm k) m l λ_ l=>bB d l [bf 2 l (bm k)]) λk=>aW j ( aF (bW [(.bool
 false),.af] []) λj=>bq 2 (bm h) j i λ_ j=>bB d j [bf 2 j (bm h)]) ( k (gA h) i)) λd=>cT n (λh i j=>ay .gtr (aU i) (ab 0) λk=>az
 k true (some (aD i)) λl=>az k true (some (aU i)) λm=>az k true (bH .sub cD m (ab 1)) λm=>az k true (mq true [m,(ab 0)]) λm=>az k true (dW
 1 l m) λl=>az k true (cZ j l) λl=>az k true (bH .eql cD l (ab 0)) λl=>aF (di k l (.bool false)) λk=>aw (λl m=>aw (λo p=>h (gA o) p) λ
 h=>ay .sub (an l) (ab 1) λo=>h [(aD l),(aU l),o,(bm l)] m) λh=>aW k ( h [(aU i),(an i),(aD i),(bm i)] j) ( d (gA i) j)) [a,b,g,
 e] f
theorem UA{O:bo}(h:O 116=none):bz O funcs types 116 (bh HE):=.bh h (bn Tryz.func116 aA) λ_ _ _ _ _=>aA
def HH(c:bt)(n:Nat)(a b:V)(d:S):ax:=
 aw (λe f=>cY d f (an e)) λe=>cT n (λf g h=>cr (aU g) λi=>ay .lss (aD g) i λi=>aw (λj k=>aw (λl m=>ay .add (an l) (ab 1)
 λo=>f [(aD l),o,(aU l),(bm l),(bY l)] m) λf=>eG 1 (bm j) (aU j) k λl=>ij c 163 [(bY j),(aU j)] k λk m=>ay .sub l k λk=>ay .sub
 k (an j) λk=>ay .lss k (ab 0) λl=>aw (λo p=>ha 1 1 3 (cC 1 [(ab 0)]) [(0,1,(aD o))] p λp q=>iW g3 3 (an o) p q λp q=>f [(aU o),(bm
 o),(bY o),(dd o),p] q) λf=>aW l ( ay .add k (ab 1000000000) λl=>f [(aD j),l,(aU j),(ab 1),(bm j),(bY j)] m) ( f [(aD j),k,(aU j),
 (ab 0),(bm j),(bY j)] m)) λf=>aW i ( f [(an g),(bY g),(aD g),(aU g),(bm g)] h) ( e [(bY g)] h)) [(ab 0),(ab 0),a,b,.af] d
theorem UD{O:bo}(h:O 119=none):bz O funcs types 119 (bh HH):=.bh h (bn Tryz.func119 aA) λ_ _ _ _ _=>aA
def Nv(c:bt)(n:Nat)(a b:V)(d:S):ax:=
 b0 190 a d λa e=>b0 47 b e λb e=>bQ ec 45 e λe f=>bd f (a6 0 a) λf g h=>b7 3 g f λf g i=>b7 8 g b λb g j=>bS c 81 [f,b] g λb f g
 =>bd f (a6 3 a) λf k l=>dQ k f λf k m=>bS c 28 [f,(ab 1)] k λf k o=>bS c 164 [b,f] k λb f k=>bd f (a6 0 a) λa f p=>bd f (a6 2 a) λa f
 q=>dQ f a λa f r=>bS c 28 [a,(ab 1)] f λa f s=>bS c 80 [b,a] f λa b f=>dx 4 e a b λ_ a b=>dX [0,1,0,7,0,16,63,127,0,256,768,2047,4095,
 8191] [h,i,j,g,l,m,o,k,p,q,r,s,f,b] <| bB d a [bf 4 a e]
theorem afN{O:bo}(h:O 123=none):bz O funcs types 123 (bh Nv):=.bh h (bn Tryz.func123 aA) λ_ _ _ _ _=>aA
def Nw(c:bt)(n:Nat)(a b:V)(d:S):ax:=
 b0 82 a d λa e=>b0 82 b e λb e=>bQ [(ab 0),(ab 0),(ab 0)] 94 e λe f=>br 0 b f λg=>br 0 a f λh=>ay .sub g h λg=>br 1 b f λb=>
 br 1 a f λa=>ay .sub b a λa=>ay .mul g g λb=>ay .mul a a λh=>ay .add b h λb=>cX c 67 [b] f λb f=>cX c 165 [b] f λb f=>aF (dS 0
 b) λh=>aF (dS 1 b) λb=>bQ [(.bool false),.af] 43 f λf i=>bq 2 f h i λ_ h=>bP 2 h f λf=>dO c 166 [f] h λf h=>aF (dS 0 f) λi=>aF
 (dS 1 f) λ_=>aF (un .not b) λb=>az b false (some i) λf=>az b false (bH .eql cD f (ab 0)) λf=>aF (di b (.bool true) f) λb=>aw (λf j=>dO
 c 168 [(aD f)] j λj k=>dO c 168 [(an f)] k λk l=>dO c 167 [j,k] l λj k=>dO c 167 [j,(aU f)] k λj k=>ay .quo (an f) j λl=>aF (un .neg
 (aD f)) λm=>ay .quo m j λm=>ay .quo (aU f) j λj=>aF (bW [(ab 0),(ab 0),(ab 0)] [(0,1,l),(1,1,m),(2,1,j)]) λj=>bq 3 (bm f) j
 k λ_ j=>bB d j [bf 3 j (bm f),some (.bool true)]) λf=>aW b ( aF (bW [(ab 0),(ab 0),(ab 0)] []) λb=>bq 3 e b h λ_ b=>bB d b [bf 3 b e,
 some (.bool false)]) ( f [a,g,i,e] h)
theorem afO{O:bo}(h:O 124=none):bz O funcs types 124 (bh Nw):=.bh h (bn Tryz.func124 aA) λ_ _ _ _ _=>aA
def Nx(c:bt)(n:Nat)(a b:V)(d:S):ax:=
 bQ [(ab 0),(ab 0)] 82 d λe f=>ay .add b (ab 1) λg=>cr a λh=>ay .lss g h λg=>aw (λh i=>ke 2 (an h) (ab 0) i λj=>bq 2 (aD h)
 j i λ_ i=>bB d i [bf 2 i (aD h)]) λh=>aW g ( ay .add b (ab 1) λb=>ke 2 a b f λb=>bq 2 e b f λ_ b=>bB d b [bf 2 b e]) ( h [a,e] f)
theorem afP{O:bo}(h:O 125=none):bz O funcs types 125 (bh Nx):=.bh h (bn Tryz.func125 aA) λ_ _ _ _ _=>aA
def NB(c:bt)(n:Nat)(a b d e:V)(f:S):ax:=
 b0 45 a f λa g=>b0 45 b g λb g=>b0 45 d g λd g=>bQ ec 45 g λg h=>bQ ec 45 h λh i=>aF (mq true [e,(ab 0)]) λe=>cX c 131 [e] i λ
 e i=>bQ ec 45 i λi j=>bq 4 i e j λ_ e=>bP 4 e a λj=>bP 4 e b λk=>bP 4 e d λl=>bP 4 e i λm=>cX c 169 [j,k,l,m] e λe j=>bQ ec
 45 j λj k=>bq 4 j e k λ_ e=>bP 4 e a λk=>bP 4 e j λl=>cX c 170 [k,l] e λe k=>bQ ec 45 k λk l=>bq 4 k e l λ_ e=>bP 4 e a λl=>
 bP 4 e j λj=>cX c 171 [l,j] e λe j=>bQ ec 45 j λj l=>bq 4 j e l λ_ e=>bP 4 e d λl=>dO c 72 [l] e λe l=>ay .eql e (ab 0) λe=>aw
 (λm o=>bP 4 o (aU m) λp=>bP 4 o (bm m) λq=>cX c 80 [p,q] o λo p=>cX c 172 [o] p λo p=>bQ ec 45 p λp q=>bq 4 p o q λ_ o=>bP
 4 o p λq=>dO c 72 [q] o λo q=>ay .gtr o (ab 0) λo=>az o true (bf 4 q p) λr=>az o true (bf 4 q (an m)) λs=>bZ (gJ o true (cJ c false
 false (.fn 78 [] []) [r,s] q) q) λq r=>az o true (bH .lss cD q (ab 0)) λq=>aF (di o q (.bool false)) λo=>aw (λq s=>b7 4 s (an q) λs t u=>b7
 4 t (aD q) λt v w=>dx 4 (aU q) s v λ_ s v=>dx 4 (bm q) t s λ_ s t=>dX [0,0,1,7] [u,w,v,t] <| bB f s [bf 4 s (aU q),bf 4 s (bm q)]) λ
 q=>aW o ( bP 4 r (aD m) λo=>bP 4 r (aU m) λs=>bP 4 r (bm m) λt=>bP 4 r p λp=>cX c 169 [o,s,t,p] r λo p=>bQ ec 45 p λp s=>
 bq 4 p o s λ_ o=>bP 4 o (bY m) λs=>bP 4 o p λt=>cX c 170 [s,t] o λo s=>bq 4 (bY m) o s λ_ o=>bP 4 o (dd m) λs=>bP 4 o p λp
 =>cX c 171 [s,p] o λo p=>bq 4 (dd m) o p λ_ o=>q [(bY m),(dd m),(eS m),(ik m)] o) ( q [(bY m),(dd m),(eS m),(ik m)] r)) λm=>aW
 e ( b7 4 l k λe o p=>b7 4 o j λo q r=>dx 4 g e q λ_ e q=>dx 4 h o e λ_ e o=>dX [0,0,1,7] [p,r,q,o] <| bB f e [bf 4 e g,bf 4 e h]) ( m [i,a,
 b,d,k,j,g,h] l)
theorem afT{O:bo}(h:O 130=none):bz O funcs types 130 (qw NB):=.qw h (bn Tryz.func130 aA) λ_ _ _ _ _ _ _=>aA
def NC(c:bt)(n:Nat)(a:V)(b:S):ax:=
 bQ ec 45 b λd e=>cX c 28 [a,(ab 1)] e λa e=>bq 4 d a e λ_ a=>bB b a [bf 4 a d]
theorem afU{O:bo}(h:O 131=none):bz O funcs types 131 (cN NC):=.cN h (bn Tryz.func131 aA) λ_ _ _ _=>aA
def HX(c:bt)(n:Nat)(a b d:V)(e:S):ax:=
 b0 28 a e λa f=>bQ ec 45 f λf g=>bQ ec 45 g λg h=>bQ ec 45 h λh i=>br 1 a i λa=>hV 18 a d λa=>br 9 a i λa=>cr a λd=>aw
 (λj k=>b7 4 k (an j) λk l m=>b7 4 l (aD j) λl o p=>b7 4 o (aU j) λo q r=>dx 4 (an j) k q λ_ k q=>dx 4 (aD j) l k λ_ k l=>dx
 4 (aU j) o k λ_ k o=>dX [0,0,0,1,11,31] [m,p,r,q,l,o] <| bB e k [bf 4 k (an j),bf 4 k (aD j),bf 4 k (aU j)]) λe=>cT n (λj k l=>ay .lss
 (an k) (aD k) λm=>aw (λo p=>aw (λq r=>ay .add (an q) (ab 1) λs=>j (s::qa q) r) λj=>ke 13 (aU o) (an o) p λq=>bQ [(ab 0),
 (.bool false),.af,(.bool false),.af,(.bool false),.af,(.bool false),.af,(.bool false),.af,(.bool false),.af] 132 p λp r=>bq 13 p q r λ_ q=>b7 4
 q (bY o) λq r s=>bd r (a6 1 p) λr t u=>b7 4 t r λr t v=>dD t (bm o) λt w x=>bd w (a6 0 p) λw y z=>dQ y w λw y A=>bd y (dW 4 t w) λ
 t w y=>b7 4 w t λt w B=>bS c 183 [r,t] w λr t w=>bS c 141 [q,r] t λq r t=>b7 4 r (dd o) λr aQ cB=>bd aQ (a6 5 p) λaQ F G=>b7 4 F aQ λaQ F H
 =>dD F (bm o) λF I e4=>bd I (a6 0 p) λI K L=>dQ K I λI K M=>bd K (dW 4 F I) λF I K=>b7 4 I F λF I N=>bS c 183 [aQ,F] I λaQ F I=>bS c
 141 [r,aQ] F λr aQ F=>b7 4 aQ (eS o) λaQ O P=>bd O (a6 9 p) λO Q R=>b7 4 Q O λO Q S=>dD Q (bm o) λQ T b3=>bd T (a6 0 p) λp T V=>dQ T p
 λp T W=>bd T (dW 4 Q p) λp Q T=>b7 4 Q p λp Q X=>bS c 183 [O,p] Q λp O Q=>bS c 141 [aQ,p] O λp aQ O=>dx 4 (bY o) q aQ λ_ q aQ=>dx 4 (dd
 o) r q λ_ q r=>dx 4 (eS o) p q λ_ p q=>dX [0,0,2,0,0,16,56,120,254,511,0,0,2048,0,0,16384,57344,122880,261119,524287,0,0,2097152,0,0,16777216,
 58720256,125829120,267386879,536870911,1073741823,2147483647,4294967295] [s,u,v,x,z,A,y,B,w,t,cB,G,H,e4,L,M,K,N,I,F,P,R,S,b3,V,W,T,X,Q,O,aQ,r,q] <|
 j (pA o) p) λj=>aW m ( j (pA k) l) ( e [(bY k),(dd k),(eS k)] l)) [(ab 0),d,a,b,f,g,h] i
theorem UT{O:bo}(h:O 143=none):bz O funcs types 143 (hA HX):=.hA h (bn Tryz.func143 aA) λ_ _ _ _ _ _=>aA
def H0(c:bt)(n:Nat)(a b d:V)(e:S):ax:=
 b0 203 a e λa f=>br 0 a f λg=>hn 0 b 8 f λh=>bZ (cJ c true false g [h] f) λf g=>br 0 a g λh=>hn 8 d 8 g λi=>bZ (cJ c true false
 h [i] g) λg h=>ij c 147 [f,g] h λf g=>ay .gtr f (ab 0) λf=>az f false (a6 0 a) λh=>az f false (cZ g h) λh=>az f false (a6 0 d) λd=>az
 f false (bf 8 g d) λd=>bZ (gJ f false (cJ c true false h [d] g) g) λd g=>az f false (a6 0 a) λa=>az f false (cZ g a) λa=>az f false (a6 8 b) λ
 b=>az f false (bf 8 g b) λb=>bZ (gJ f false (cJ c true false a [b] g) g) λa b=>bZ (gJ f false (cJ c true false (.fn 147 [] []) [d,a] b) b) λa b=>
 az f false (bH .gtr cD a (ab 0)) λa=>aF (di f (.bool true) a) λa=>cY e b a
theorem UX{O:bo}(h:O 146=none):bz O funcs types 146 (hA H0):=.hA h (bn Tryz.func146 aA) λ_ _ _ _ _ _=>aA
def H3(c:bt)(n:Nat)(a:V)(b:S):ax:=
 b0 43 a b λa d=>aw (λ_ e=>cY b e (ab 1)) λe=>br 0 a d λf=>aw (λ_ g=>e [] g) λe=>aW f ( cY b d (ab (-1))) ( br 1 a d λa=>cr a λ
 a=>ay .eql a (ab 0) λa=>aw (λ_ f=>e [] f) λe=>aW a ( cY b d (ab 0)) ( e [] d))
theorem UZ{O:bo}(h:O 154=none):bz O funcs types 154 (cN H3):=.cN h (bn Tryz.func154 aA) λ_ _ _ _=>aA
def Ia(c:bt)(n:Nat)(a b:V)(d:S):ax:=
 cr a λe=>ay .lss b e λe=>aw (λ_ f=>cY d f (ab 0)) λf=>aW e ( eG 1 a b d λa=>cY d d a) ( f [] d)
theorem U6{O:bo}(h:O 163=none):bz O funcs types 163 (bh Ia):=.bh h (bn Tryz.func163 aA) λ_ _ _ _ _=>aA
def NI(c:bt)(n:Nat)(a b:V)(d:S):ax:=
 aw (λe f=>cY d f (an e)) λe=>cT n (λf g h=>ay .neq (an g) (ab 0) λi=>aw (λj k=>aw (λl m=>f (iX l) m) λf=>ay .rem (an j) (aD
 j) λl=>f [l,(aD j)] k) λf=>aW i ( f [(aD g),(an g)] h) ( e [(aD g)] h)) [b,a] d
theorem af0{O:bo}(h:O 167=none):bz O funcs types 167 (bh NI):=.bh h (bn Tryz.func167 aA) λ_ _ _ _ _=>aA
def NL(c:bt)(n:Nat)(a b:V)(d:S):ax:=
 b0 45 a d λa e=>b0 45 b e λb e=>bQ ec 45 e λe f=>bP 4 f b λg=>bP 4 f a λh=>dO c 78 [g,h] f λf g=>ay .lss f (ab 0) λf=>aw (λ
 h i=>bP 4 i (an h) λj=>bq 4 (aD h) j i λ_ i=>bB d i [bf 4 i (aD h)]) λh=>aW f ( bP 4 g b λb=>bq 4 e b g λ_ b=>bB d b [bf 4 b e])
 ( h [a,e] g)
theorem af3{O:bo}(h:O 170=none):bz O funcs types 170 (bh NL):=.bh h (bn Tryz.func170 aA) λ_ _ _ _ _=>aA
def Ie(c:bt)(n:Nat)(a b d e:V)(f:S):ax:=
 b0 45 a f λa g=>b0 45 b g λb g=>b0 45 d g λd g=>b0 45 e g λe g=>bQ ec 45 g λg h=>bS c 142 [(ab 1),(ab 2)] h λh i j=>b7 4 i d λ
 d i k=>b7 4 i e λi l m=>bS c 183 [d,i] l λd i l=>bS c 183 [h,d] i λd h i=>lT ec 45 h λh o p=>dx 4 h d o λ_ d o=>dX [0,0,0,7,15,0,63]
 [j,k,m,l,i,p,o] <| b7 4 d a λa d i=>b7 4 d e λd e j=>b7 4 e b λb e k=>b7 4 e h λe h l=>bS c 141 [b,e] h λb e h=>bS c 183 [d,b] e λb d
 e=>bS c 141 [a,b] d λa b d=>dx 4 g a b λ_ a b=>dX [0,0,0,0,12,30,63,127] [i,j,k,l,h,e,d,b] <| bB f a [bf 4 a g]
theorem U9{O:bo}(h:O 174=none):bz O funcs types 174 (qw Ie):=.qw h (bn Tryz.func174 aA) λ_ _ _ _ _ _ _=>aA
def Ij(c:bt)(n:Nat)(a b:V)(d:S):ax:=
 b0 43 a d λa e=>b0 43 b e λb e=>bQ [(.bool false),.af] 43 e λe f=>aw (λg h=>bd h (a6 0 (an g)) λh i j=>dQ i h λh i k=>bd i (a6 1 (an
 g)) λi l m=>dQ l i λi l o=>bd l (a6 1 (aD g)) λl p q=>dQ p l λl p r=>bS c 201 [i,l] p λi l p=>bS c 192 [h,i] l λh i l=>dx 2 (aU g)
 h i λ_ h i=>dX [0,1,0,4,0,16,60,127,255] [j,k,m,o,q,r,p,l,i] <| bB d h [bf 2 h (aU g)]) λg=>br 0 a f λh=>br 0 b f λi=>aF (bH .eql
 (aJ.get types 4) h i) λh=>aw (λi j=>g (fT i) j) λg=>aW h ( bd f (a6 0 a) λh i j=>dQ i h λh i k=>bd i (a6 1 a) λi l m=>dQ l i λi l o
 =>bd l (a6 1 b) λl p q=>dQ p l λl p r=>bS c 199 [i,l] p λi l p=>bS c 192 [h,i] l λh i l=>dx 2 e h i λ_ h i=>dX [0,1,0,4,0,16,60,127,
 255] [j,k,m,o,q,r,p,l,i] <| bB d h [bf 2 h e]) ( br 1 a f λh=>br 1 b f λi=>dO c 200 [h,i] f λf h=>ay .lss f (ab 0) λf=>aw (λi j=>g (fT
 i) j) λg=>aW f ( bd h (a6 0 b) λf i j=>dQ i f λf i k=>bd i (a6 1 b) λi l m=>dQ l i λi l o=>bd l (a6 1 a) λl p q=>dQ p l λl p r=>
 bS c 201 [i,l] p λi l p=>bS c 192 [f,i] l λf i l=>dx 2 e f i λ_ f i=>dX [0,1,0,4,0,16,60,127,255] [j,k,m,o,q,r,p,l,i] <| bB d f [bf 2 f e])
 ( g [a,b,e] h))
theorem Vd{O:bo}(h:O 178=none):bz O funcs types 178 (bh Ij):=.bh h (bn Tryz.func178 aA) λ_ _ _ _ _=>aA
def It(c:bt)(n:Nat)(a b:V)(d:S):ax:=
 bQ [(.bool false),.af] 43 d λe f=>cr b λg=>aw (λh i=>ay .eql (aU h) (ab 0) λj=>aw (λk l=>aF (jn 1 (aD k) none (some (aU k)) (some (aU
 k))) λm=>aF (bW [(.bool false),.af] [(0,1,(an k)),(1,1,m)]) λm=>bq 2 (bm k) m l λ_ l=>bB d l [bf 2 l (bm k)]) λk=>aW j ( aF (bW
 [(.bool false),.af] []) λj=>bq 2 (bm h) j i λ_ j=>bB d j [bf 2 j (bm h)]) ( k (gA h) i)) λd=>cT n (λh i j=>ay .gtr (aU i) (ab 0) λk
 =>az k true (some (aD i)) λl=>az k true (some (aU i)) λm=>az k true (bH .sub cD m (ab 1)) λm=>az k true (dW 1 l m) λl=>az k true (cZ j l)
 λl=>az k true (bH .eql cD l (ab 0)) λl=>aF (di k l (.bool false)) λk=>aw (λl m=>aw (λo p=>h (gA o) p) λh=>ay .sub (an l) (ab 1) λ
 o=>h [(aD l),(aU l),o,(bm l)] m) λh=>aW k ( h [(aU i),(an i),(aD i),(bm i)] j) ( d (gA i) j)) [a,b,g,e] f
theorem Vm{O:bo}(h:O 192=none):bz O funcs types 192 (bh It):=.bh h (bn Tryz.func192 aA) λ_ _ _ _ _=>aA
def Iv(c:bt)(n:Nat)(a b:V)(d:S):ax:=
 bQ [(.bool false),.af] 43 d λe f=>aw (λg h=>aF (bH .rem (aJ.get types 226) (aD g) (.int .u64 1000000000)) λi=>aF (mc .i64 i) λi=>aF (bH .quo
 (aJ.get types 226) (aD g) (.int .u64 1000000000)) λj=>aF (bH .rem (aJ.get types 226) j (.int .u64 1000000000)) λj=>aF (mc .i64 j) λj=>aF (bH .quo (aJ.get
 types 226) (aD g) (.int .u64 1000000000)) λk=>aF (bH .quo (aJ.get types 226) k (.int .u64 1000000000)) λk=>aF (mc .i64 k) λk=>ha 1 3 3 (cC 3 [(ab 0)])
 [(0,1,i),(1,1,j),(2,1,k)] h λh i=>aF (bW [(.bool false),.af] [(0,1,(an g)),(1,1,h)]) λh=>bq 2 (aU g) h i λ_ h=>bB d h [bf 2 h (aU
 g)]) λg=>aF (bH .eql (aJ.get types 226) b (.int .u64 0)) λh=>aw (λi j=>g (fT i) j) λg=>aW h ( aF (bW [(.bool false),.af] []) λh=>bq 2
 e h f λ_ h=>bB d h [bf 2 h e]) ( aF (bH .lss (aJ.get types 226) b (.int .u64 1000000000)) λh=>aw (λi j=>g (fT i) j) λg=>aW h ( aF (mc .i64 b) λ
 h=>ha 1 1 3 (cC 1 [(ab 0)]) [(0,1,h)] f λh i=>aF (bW [(.bool false),.af] [(0,1,a),(1,1,h)]) λh=>bq 2 e h i λ_ h=>bB d h [bf 2 h e]) ( aF
 (bH .lss (aJ.get types 226) b (.int .u64 1000000000000000000)) λh=>aw (λi j=>g (fT i) j) λg=>aW h ( aF (bH .rem (aJ.get types 226) b (.int .u64 1000000000))
 λh=>aF (mc .i64 h) λh=>aF (bH .quo (aJ.get types 226) b (.int .u64 1000000000)) λi=>aF (mc .i64 i) λi=>ha 1 2 3 (cC 2 [(ab 0)]) [(0,1,h),(1,
 1,i)] f λh i=>aF (bW [(.bool false),.af] [(0,1,a),(1,1,h)]) λh=>bq 2 e h i λ_ h=>bB d h [bf 2 h e]) ( g [a,b,e] f)))
theorem Vo{O:bo}(h:O 194=none):bz O funcs types 194 (bh Iv):=.bh h (bn Tryz.func194 aA) λ_ _ _ _ _=>aA
def Iz(c:bt)(n:Nat)(a b:V)(d:S):ax:=
 cr a λe=>cr b λf=>ay .lss e f λe=>aw (λf g=>cr (aD f) λh=>ay .add h (ab 1) λh=>bZ (c6 g (eV types 22 h h (aN g))) λg h
 =>cr (aD f) λi=>aw (λj k=>cr (an j) λl=>hV 1 (aU j) l λl=>bq 1 l (aD j) k λ_ k=>cY d k (aU j)) λj=>cT n (λk l m=>ay .lss
 (an l) (aD l) λo=>aw (λp q=>aw (λr s=>ay .add (an r) (ab 1) λt=>k (t::qa r) s) λk=>eG 1 (bm p) (aD p) q λr=>ay .add r (an
 p) λr=>cr (bY p) λs=>ay .lss (aD p) s λs=>aw (λt u=>ay .geq (aD t) (ab 1000000000) λv=>aw (λw x=>hV 1 (mn w) (an w) λy=>bq
 1 y (aD w) x λ_ x=>k [(aU w),(bm w),(bY w),(dd w),(eS w),(ik w),(mn w)] x) λk=>aW v ( ay .sub (aD t) (ab 1000000000) λv=>k [(an
 t),v,(aU t),(bm t),(bY t),(dd t),(eS t),(ab 1),(ik t)] u) ( k [(an t),(aD t),(aU t),(bm t),(bY t),(dd t),(eS t),(ab 0),(ik
 t)] u)) λk=>aW s ( eG 1 (bY p) (aD p) q λs=>ay .add r s λs=>k [(aD p),s,(aD p),(aU p),(bm p),(bY p),(dd p),(eS p)] q) ( k [(aD
 p),r,(aD p),(aU p),(bm p),(bY p),(dd p),(eS p)] q)) λk=>aW o ( k [(dd l),(an l),(aD l),(aU l),(bm l),(bY l),(eS l)] m) (
 j [(bY l),(dd l),(eS l)] m)) [(ab 0),i,(aD f),(an f),(aD f),(ab 0),g] h) λf=>aW e ( f [a,b] d) ( f [b,a] d)
theorem Vs{O:bo}(h:O 199=none):bz O funcs types 199 (bh Iz):=.bh h (bn Tryz.func199 aA) λ_ _ _ _ _=>aA
def ID(c:bt)(n:Nat)(a b:V)(d:S):ax:=
 b0 43 a d λa e=>b0 43 b e λb e=>bQ [(.bool false),.af] 43 e λe f=>bQ [(.bool false),.af] 43 f λf g=>br 1 b g λh=>cr h λh=>ay .eql
 h (ab 0) λh=>aw (λi j=>br 1 (an i) j λk=>br 1 (aD i) j λl=>cX c 195 [k,l] j λj k=>aF (dS 0 j) λl=>aF (dS 1 j) λj=>bQ [(.bool
 false),.af] 43 k λk m=>bQ [(.bool false),.af] 43 m λm o=>bq 2 k l o λ_ l=>bq 2 m j l λ_ j=>br 0 (an i) j λl=>az l true (a6 1 m) λo=>
 az l true (cZ j o) λo=>az l true (fP o) λo=>az l true (bH .gtr cD o (ab 0)) λo=>aF (di l o (.bool false)) λl=>aw (λo p=>br 0 (an o)
 p λq=>br 0 (aD o) p λr=>aF (bH .neq (aJ.get types 4) q r) λq=>az q true (a6 1 (aU o)) λr=>az q true (cZ p r) λr=>az q true (fP r) λ
 r=>az q true (bH .gtr cD r (ab 0)) λr=>aF (di q r (.bool false)) λq=>hv 0 (aU o) λr=>bq 1 r q p λ_ p=>b7 2 p (aU o) λp q r=>b7 2
 q (bm o) λq s t=>dx 2 (bY o) p s λ_ p s=>dx 2 (dd o) q p λ_ p q=>dX [0,0,1,7] [r,t,s,q] <| bB d p [bf 2 p (bY o),bf 2 p (dd o)]) λo
 =>aW l ( br 1 k j λl=>ha 1 1 3 (cC 1 [(ab 0)]) [(0,1,(ab 1))] j λp q=>cX c 199 [l,p] q λl p=>cX c 192 [(.bool false),l] p λl p=>bq 2 k
 l p λ_ l=>br 1 (aD i) l λp=>br 1 m l λq=>cX c 201 [p,q] l λl p=>cX c 192 [(.bool false),l] p λl p=>bq 2 m l p λ_ l=>o [(an i),(aD
 i),k,m,(aU i),(bm i)] l) ( o [(an i),(aD i),k,m,(aU i),(bm i)] j)) λi=>aW h ( aF (bW [(.bool false),.af] []) λh=>aF (bW [(.bool
 false),.af] []) λj=>bq 2 e h g λ_ h=>bq 2 f j h λ_ h=>bB d h [bf 2 h e,bf 2 h f]) ( i [a,b,e,f] g)
theorem Vw{O:bo}(h:O 203=none):bz O funcs types 203 (bh ID):=.bh h (bn Tryz.func203 aA) λ_ _ _ _ _=>aA
def NR(c:bt)(n:Nat)(a b:V)(d:S):ax:=
 cr b λe=>ay .sub e (ab 1) λe=>eG 1 b e d λe=>ay .add e (ab 1) λe=>ay .quo (ab 1000000000) e λe=>dD d a λf g h=>dD g e λg i j=>
 bS c 251 [f,g] i λf g i=>dD g b λg k l=>dD k e λk m o=>bS c 251 [g,k] m λg k m=>dD k b λk p q=>dp (ga none p (eT (some ([k].flatMap cp.cc))
 p (fP k))) λk p r=>bd p (jn 1 g none (some k) none) λg k p=>dD k f λf k s=>dD k g λg k t=>dX [0,0,3,0,0,31,0,64,255,63,1023] [h,j,i,l,o,
 m,q,r,p,s,t] <| cr b λb=>cr a λh=>ay .sub h b λh=>ay .add h (ab 1) λh=>bZ (c6 k (eV types 22 h h (aN k))) λh i=>cr a λa=>
 ay .sub a b λa=>aw (λj k=>aF (jn 1 (an j) none (some (aD j)) none) λl=>dO c 218 [l,(aU j)] k λk l=>aF (dS 0 k) λm=>aF (dS 1 k) λ
 _=>bB d l [some (bm j),some m]) λd=>cT n (λj k l=>ay .geq (an k) (ab 0) λm=>aw (λo p=>aw (λq r=>ay .sub (an q) (ab 1) λs=>j (s
 ::rG q) r) λj=>ay .add (an o) (bm o) λq=>eG 1 (aU o) q p λq=>ay .mul q (ab 1000000000) λq=>ay .add (an o) (bm o) λr=>ay .sub
 r (ab 1) λr=>eG 1 (aU o) r p λr=>ay .add q r λq=>ay .sub (bm o) (ab 1) λr=>eG 1 (aD o) r p λr=>ay .quo q r λr=>ay .sub (bm
 o) (ab 1) λs=>eG 1 (aD o) s p λs=>ay .rem q s λq=>aw (λs t=>aw (λu v=>ay .add (aU u) (dd u) λw=>eG 1 (bY u) w v λx=>ay .sub
 x (an u) λx=>hV 1 (bY u) w λw=>bq 1 w x v λ_ v=>ay .add (aU u) (dd u) λw=>eG 1 (bY u) w v λw=>ay .lss w (ab 0) λw=>aw (λx
 y=>hV 1 (eS x) (aD x) λz=>bq 1 z (an x) y λ_ y=>j (qa x) y) λj=>aW w ( ay .sub (aD u) (ab 1) λw=>aw (λx y=>ay .add (aU x) (dd
 x) λz=>eG 1 (bY x) z y λA=>ay .add A (an x) λA=>hV 1 (bY x) z λz=>bq 1 z A y λ_ y=>j (zc x) y) λx=>cT n (λy z A=>ay .lss
 (an z) (aD z) λB=>aw (λaQ cB=>aw (λF G=>ay .add (an F) (ab 1) λH=>y (H::LH F) G) λy=>ay .add (aD aQ) (bY aQ) λF=>eG 1 (eS aQ)
 F cB λF=>eG 1 (dd aQ) (aD aQ) cB λG=>ay .add F G λF=>ay .add F (an aQ) λF=>ay .add (aD aQ) (bY aQ) λG=>ay .rem F (ab 1000000000) λH=>
 ay .quo F (ab 1000000000) λF=>hV 1 (eS aQ) G λG=>bq 1 G H cB λ_ cB=>y [(aD aQ),(aU aQ),F,(bm aQ),(bY aQ),(dd aQ),(eS aQ),(ik aQ),(mn
 aQ),(oe aQ)] cB) λy=>aW B ( y [(aU z),(an z),(aD z),(bm z),(bY z),(dd z),(eS z),(ik z),(mn z),(oe z)] A) ( x [(aU z),(bm z),(bY
 z),(dd z),(eS z),(ik z),(mn z),(oe z)] A)) [(ab 0),(dd u),(ab 0),w,(aU u),(bm u),(bY u),(dd u),(eS u),(ik u)] v) ( j (zc u)
 v)) λj=>cT n (λu v w=>ay .lss (an v) (aD v) λx=>aw (λy z=>aw (λA B=>ay .add (an A) (ab 1) λaQ=>u (aQ::LH A) B) λu=>ay .add
 (aD y) (bY y) λA=>eG 1 (eS y) A z λA=>eG 1 (dd y) (aD y) z λB=>ay .mul (bm y) B λB=>ay .sub A B λA=>ay .sub A (an y) λA=>
 ay .lss A (ab 0) λB=>aw (λaQ cB=>ay .add (an aQ) (eS aQ) λF=>hV 1 (mn aQ) F λF=>bq 1 F (aD aQ) cB λ_ cB=>u [(aU aQ),(bm aQ),(bY aQ),(dd
 aQ),(eS aQ),(ik aQ),(mn aQ),(oe aQ),(nth aQ 10),(nth aQ 11)] cB) λu=>aW B ( aF (un .neg A) λB=>ay .add B (ab 1000000000) λB=>ay .sub B (ab 1)
 λB=>ay .quo B (ab 1000000000) λB=>ay .mul B (ab 1000000000) λaQ=>ay .add A aQ λaQ=>u [(aD y),aQ,(aD y),(aU y),B,(bm y),(bY y),(dd
 y),(eS y),(ik y),(mn y),(oe y)] z) ( u [(aD y),A,(aD y),(aU y),(ab 0),(bm y),(bY y),(dd y),(eS y),(ik y),(mn y),(oe y)] z))
 λu=>aW x ( u [(aU v),(an v),(aD v),(bm v),(bY v),(dd v),(eS v),(ik v),(mn v),(oe v)] w) ( j [(aU v),(bm v),(bY v),(dd v),
 (eS v),(ik v),(mn v),(oe v)] w)) [(ab 0),(bY s),(ab 0),(an s),(aD s),(aU s),(bm s),(bY s),(dd s),(eS s)] t) λj=>cT n (λ
 s t u=>ay .geq (aD t) (ab 1000000000) λv=>az v false (some (aD t)) λw=>az v false (some (bm t)) λx=>az v false (some (dd t)) λy=>az v false
 (bH .sub cD y (ab 2)) λy=>az v false (dW 1 x y) λx=>az v false (cZ u x) λx=>az v false (bH .mul cD w x) λw=>az v false (some (an t)) λx=>
 az v false (bH .mul cD x (ab 1000000000)) λx=>az v false (some (bY t)) λy=>az v false (some (aU t)) λz=>az v false (some (dd t)) λA=>az v
 false (bH .add cD z A) λz=>az v false (bH .sub cD z (ab 2)) λz=>az v false (dW 1 y z) λy=>az v false (cZ u y) λy=>az v false (bH .add cD x y) λ
 x=>az v false (bH .gtr cD w x) λw=>aF (di v (.bool true) w) λv=>aw (λw x=>aw (λy z=>s (AD y) z) λs=>ay .sub (an w) (ab 1) λy=>ay .sub
 (dd w) (ab 1) λz=>eG 1 (bm w) z x λz=>ay .add (aD w) z λz=>ay .geq z (ab 1000000000) λA=>aw (λB aQ=>s (AD B) aQ) λs=>aW A ( j [y,
 (aU w),(bm w),(bY w),(dd w),(eS w),(ik w)] x) ( s [z,y,(aU w),(bm w),(bY w),(dd w),(eS w),(ik w)] x)) λs=>aW v ( s [(aD t),
 (an t),(aU t),(bm t),(bY t),(dd t),(eS t),(ik t)] u) ( j (zc t) u)) [q,r,(an o),(aD o),(aU o),(bm o),(bY o),(dd o)] p) λj=>
 aW m ( j (kd k) l) ( d [(aU k),(bm k),(bY k),(dd k)] l)) [a,g,f,b,e,h] i
theorem agc{O:bo}(h:O 219=none):bz O funcs types 219 (bh NR):=.bh h (bn Tryz.func219 aA) λ_ _ _ _ _=>aA
def NS(c:bt)(n:Nat)(a b:V)(d:S):ax:=
 cr a λe=>ay .add e (ab 1) λe=>bZ (c6 d (eV types 22 e e (aN d))) λe f=>cr a λg=>aw (λh i=>cr (an h) λj=>hV 1 (aU h) j
 λj=>bq 1 j (aD h) i λ_ i=>cY d i (aU h)) λd=>cT n (λh i j=>ay .lss (an i) (aD i) λk=>aw (λl m=>aw (λo p=>ay .add (an o)
 (ab 1) λq=>h (q::qa o) p) λh=>eG 1 (bm l) (aD l) m λo=>ay .mul o (bY l) λo=>ay .add o (an l) λo=>ay .rem o (ab 1000000000) λ
 p=>ay .quo o (ab 1000000000) λo=>hV 1 (eS l) (aD l) λq=>bq 1 q p m λ_ m=>h [(aD l),(aU l),(bm l),(bY l),(dd l),o,(eS l)] m) λ
 h=>aW k ( h [(dd i),(an i),(aD i),(aU i),(bm i),(bY i),(eS i)] j) ( d [(bY i),(dd i),(eS i)] j)) [(ab 0),g,a,b,a,(ab 0),e] f
theorem age{O:bo}(h:O 251=none):bz O funcs types 251 (bh NS):=.bh h (bn Tryz.func251 aA) λ_ _ _ _ _=>aA
def IL(c:bt)(n:Nat)(a:V)(b:S):ax:=
 b0 47 a b λa d=>bQ ec 45 d λd e=>hn 0 a 4 e λa=>bq 4 d a e λ_ a=>bB b a [bf 4 a d]
theorem VE{O:bo}(h:O 449=none):bz O funcs types 449 (cN IL):=.cN h (bn Tryz.func449 aA) λ_ _ _ _=>aA
def IN(c:bt)(n:Nat)(a:V)(b:S):ax:=
 b0 82 a b λa d=>br 0 a d λa=>cY b d a
theorem VG{O:bo}(h:O 450=none):bz O funcs types 450 (cN IN):=.cN h (bn Tryz.func450 aA) λ_ _ _ _=>aA
def IQ(c:bt)(n:Nat)(a:V)(b:S):ax:=
 b0 82 a b λa d=>br 1 a d λa=>cY b d a
theorem VI{O:bo}(h:O 452=none):bz O funcs types 452 (cN IQ):=.cN h (bn Tryz.func452 aA) λ_ _ _ _=>aA
def fc(fn:Func):Fn:=λc n l s=>oP false c types n fn l s
def vE(fn:Func):Fn:=λc _ l s=>Cg c types 4000 fn l s
theorem fm{O:bo}{f:Nat}{fn:Func}(h:∀f,O f=none)(aM:funcs.get f=some fn)(hk:dT f=false:=by rfl):bz O funcs types f (fc fn):=.den (h f) aM λ_ _ _ _ _ e=>by rw[hk];exact e
theorem xc{O:bo}{f:Nat}{fn:Func}(h:∀f,O f=none)(aM:funcs.get f=some fn)(hk:dT f=false:=by rfl):bz O funcs types f (vE fn):=.ER (h f) hk aM 4000
def vc:aJ Fn:=
 (t2 (t2 (t2 (t2 (t2 (t2 (t3 (t2 (t1 (fc Tryz.f255)) cG) (bh Wj) (t1 (cN Wd))) (t3 (t1 (bh H5)) (fc Tryz.f95) cG)) (t3 (t2 (t1 (hA HX)) (t3 cG (fc Tryz.f207) (t1 (fc Tryz.f463))))
 (bh IT) (t3 (t3 (t1 (vE Tryz.f303)) (cN Ig) cG) (cN Hz) (t1 (fc Tryz.f239))))) (t3 (t3 (t2 (t1 (bh HO)) (t3 cG (bh Iz) (t1 (fc Tryz.f455)))) (cN IH) (t2 cG (t1 (fc Tryz.f231))))
 (bh Wf) (t3 (t3 (t3 (t1 (fc Tryz.f279)) (fc Tryz.f151) cG) (bh I7) cG) (fc Tryz.f55) (t3 (t1 (bh Ip)) (bh HH) cG)))) (t3 (t3 (t2 (t3 cG (cN IZ) (t3 cG (bh BD) (t1 (cN
 IP)))) (t3 (t1 (bh Ia)) (bh Wm) (t1 (fc Tryz.f227)))) (bh Is) (t3 (t3 (t3 (t1 (fc Tryz.f275)) (bh H2) cG) (bh I5) (t1 (vE Tryz.f211))) (bh IX) (t3 (t1 (cN Ik)) (cN
 HD) cG))) (hA Hy) (t2 (t3 (t2 (t1 (hA HS)) (t1 (bh ID))) (hA IK) (t3 cG (bh V8) (t1 (fc Tryz.f235)))) (t3 cG (cN Wi) (t2 (t1 (fc Tryz.f187)) cG))))) (t2 (t3 (t3 (t3
 (t2 (t1 (cN HK)) (t3 cG (cN Iu) (t1 (cN IL)))) (bh IG) (t3 (t3 (t1 (fc Tryz.f289)) (cN H8) cG) (hA Wl) cG)) (cN Ib) (t3 (t2 (t3 (t1 (fc Tryz.f273)) (bh HZ) cG)
 (t1 (fc Tryz.f209))) (bh IV) (t3 (t3 (t1 (fc Tryz.f305)) (cN Ii) cG) (bh HB) cG))) (bh Ja) (t2 (t3 (t2 (t1 (bh HQ)) (t3 cG (bh IB) (t1 (fc Tryz.f457)))) (cN II) (t2
 cG (t1 (fc Tryz.f233)))) (t3 (t3 (t1 (fc Tryz.f153)) (vz I9) (t1 (bh We))) (cN Wh) (t2 (t1 (bh Ir)) (t2 (t1 (fc Tryz.f377)) cG))))) (t2 (t3 (t2 (t3 (t3 cG (bh HM) (t1 (fc
 Tryz.f389))) (cN I1) (t3 cG (cN Ix) (t1 (fc Tryz.f453)))) (t1 (cN V6))) (fc Tryz.f21) (t3 (t2 (t3 (t1 (fc Tryz.f277)) (fc Tryz.f149) cG) (t2 cG (t1 (fc Tryz.f469)))) (fc Tryz.f53)
 (t3 (t1 (bh Im)) (bh HF) cG))) (t3 (t3 (t2 (t3 cG (bh HV) (t1 (vE Tryz.f397))) (t1 (fc Tryz.f205))) (cN IM) (t3 (t1 (cN Ic)) (cN Wa) (t1 (fc Tryz.f237)))) (hA IF)
 (t2 (t3 (t1 (cN Wb)) (bh Jd) (t1 (fc Tryz.f221))) (t2 (t1 (fc Tryz.f189)) (t1 (fc Tryz.f253)))))))) (t2 (t2 (t2 (t3 (t2 (t3 (t3 (t1 (fc Tryz.f256)) (bh HJ) cG) (cN Wk) (t1
 (bh It))) (t3 (t1 (cN H7)) (fc Tryz.f96) cG)) (bh H6) (t3 (t2 (t1 (bh HY)) (t1 (vE Tryz.f208))) (bh IU) (t3 (t3 (t1 (vE Tryz.f304)) (bh Ih) cG) (bh HA) cG))) (t2
 (t2 (t2 (t1 (hA HP)) (t3 cG (bh IA) (t1 (fc Tryz.f456)))) cG) (t2 (t3 (t3 (t1 (fc Tryz.f280)) (vE Tryz.f152) cG) (bh I8) (t1 (fc Tryz.f216))) (t3 (t3 (t1 (fc Tryz.f312)) (bh
 Iq) cG) (cN HI) cG)))) (t2 (t2 (t2 (t3 (t1 (bh HL)) (bh I0) (t3 cG (bh Iw) (t1 (cN IQ)))) (t2 cG (t1 (fc Tryz.f228)))) (t2 (t2 (t3 (t1 (fc Tryz.f276)) (fc Tryz.f148)
 cG) (t2 (t1 (fc Tryz.f340)) cG)) (t3 (t1 (bh Il)) (bh HE) cG))) (t3 (t2 (t2 (t3 (t1 (fc Tryz.f268)) (qw HU) cG) (t1 (fc Tryz.f204))) (t3 cG (bh V9) (t1 (fc Tryz.f236))))
 (bh IE) (t2 (t3 cG (bh Jc) (t1 (fc Tryz.f220))) (t2 (t1 (fc Tryz.f188)) (t1 (fc Tryz.f252))))))) (t2 (t2 (t2 (t2 (t3 cG (bh IY) (t3 cG (bh Iv) (t1 (cN IN)))) (t2 (t1 (bh
 H9)) cG)) (t3 (t3 (t3 (t1 (vE Tryz.f274)) (hA H0) cG) (bh I4) (t1 (fc Tryz.f210))) (bh IW) (t3 (t1 (bh Ij)) (cN HC) cG))) (t3 (t3 (t2 (t3 (t1 (fc Tryz.f266)) (bh HR)
 cG) (t1 (yl IC))) (bh IJ) (t1 (cN V7))) (bh Wg) (t2 (t3 (t1 (cN H3)) (hA Jb) cG) (t2 (t3 (t1 (fc Tryz.f314)) (fc Tryz.f186) cG) (t1 (fc Tryz.f250)))))) (t3 (t2 (t2 (t3
 (t1 (bh HN)) (bh I2) (t3 cG (bh Iy) (t1 (fc Tryz.f454)))) (t2 (t2 (t1 (vE Tryz.f294)) cG) (t1 (fc Tryz.f230)))) (t3 (t3 (t3 (t1 (fc Tryz.f278)) (fc Tryz.f150) cG) (cN I6)
 cG) (vE Tryz.f54) (t3 (t1 (cN Io)) (bh HG) cG))) (bh HT) (t2 (t3 (t3 (t1 (bh HW)) (bh I3) (t3 (t1 (fc Tryz.f334)) (fc Tryz.f206) (t1 (fc Tryz.f462)))) (cN IS) (t2 (t1
 (qw Ie)) (t1 (fc Tryz.f238)))) (t2 (t3 (t1 (cN H4)) (fc Tryz.f94) (t1 (fc Tryz.f222))) (t2 (t1 (bh Wc)) (t1 (fc Tryz.f254)))))))))
theorem ase{O:bo}(h:∀f,O f=none):pc O funcs types vc λj=>j:=
 (aT (aT (aT (aT (aT (aT (bp (aT (aB (fm h (bn Tryz.func255 aA))) (.leaf _)) (agx (h _)) (aB (af8 (h _)))) (bp (aB (U1 (h _))) (fm h (bn Tryz.func95 aA))
 (.leaf _))) (bp (aT (aB (UT (h _))) (bp (.leaf _) (fm h (bn Tryz.func207 aA)) (aB (fm h (bn Tryz.func463 aA))))) (VK (h _)) (bp (bp (aB (xc h (bn
 Tryz.func303 aA))) (Va (h _)) (.leaf _)) (Uv (h _)) (aB (fm h (bn Tryz.func239 aA)))))) (bp (bp (aT (aB (UK (h _))) (bp (.leaf _) (Vs (h _)) (aB
 (fm h (bn Tryz.func455 aA))))) (VA (h _)) (aT (.leaf _) (aB (fm h (bn Tryz.func231 aA))))) (agd (h _)) (bp (bp (bp (aB (fm h (bn Tryz.func279 aA)))
 (fm h (bn Tryz.func151 aA)) (.leaf _)) (VY (h _)) (.leaf _)) (fm h (bn Tryz.func55 aA)) (bp (aB (Vi (h _))) (UD (h _)) (.leaf _))))) (bp (bp (aT (bp
 (.leaf _) (VQ (h _)) (bp (.leaf _) (Np (h _)) (aB (VH (h _))))) (bp (aB (U6 (h _))) (agP (h _)) (aB (fm h (bn Tryz.func227 aA))))) (Vl (h _)) (bp (bp (bp (aB
 (fm h (bn Tryz.func275 aA))) (UY (h _)) (.leaf _)) (VW (h _)) (aB (xc h (bn Tryz.func211 aA)))) (VO (h _)) (bp (aB (Ve (h _))) (Uz (h _)) (.leaf
 _)))) (Uu (h _)) (aT (bp (aT (aB (UO (h _))) (aB (Vw (h _)))) (VD (h _)) (bp (.leaf _) (afH (h _)) (aB (fm h (bn Tryz.func235 aA))))) (bp (.leaf _) (agv (h _))
 (aT (aB (fm h (bn Tryz.func187 aA))) (.leaf _)))))) (aT (bp (bp (bp (aT (aB (UG (h _))) (bp (.leaf _) (Vn (h _)) (aB (VE (h _))))) (Vz (h _)) (bp (bp (aB (fm h
 (bn Tryz.func289 aA))) (U4 (h _)) (.leaf _)) (agO (h _)) (.leaf _))) (U7 (h _)) (bp (aT (bp (aB (fm h (bn Tryz.func273 aA))) (UW (h _)) (.leaf _))
 (aB (fm h (bn Tryz.func209 aA)))) (VM (h _)) (bp (bp (aB (fm h (bn Tryz.func305 aA))) (Vc (h _)) (.leaf _)) (Ux (h _)) (.leaf _)))) (V1 (h _)) (aT
 (bp (aT (aB (UM (h _))) (bp (.leaf _) (Vu (h _)) (aB (fm h (bn Tryz.func457 aA))))) (VB (h _)) (aT (.leaf _) (aB (fm h (bn Tryz.func233 aA))))) (bp
 (bp (aB (fm h (bn Tryz.func153 aA))) (V0 (h _)) (aB (aga (h _)))) (agu (h _)) (aT (aB (Vk (h _))) (aT (aB (fm h (bn Tryz.func377 aA))) (.leaf _))))))
 (aT (bp (aT (bp (bp (.leaf _) (UI (h _)) (aB (fm h (bn Tryz.func389 aA)))) (VS (h _)) (bp (.leaf _) (Vq (h _)) (aB (fm h (bn Tryz.func453 aA)))))
 (aB (afF (h _)))) (fm h (bn Tryz.func21 aA)) (bp (aT (bp (aB (fm h (bn Tryz.func277 aA))) (fm h (bn Tryz.func149 aA)) (.leaf _)) (aT (.leaf
 _) (aB (fm h (bn Tryz.func469 aA))))) (fm h (bn Tryz.func53 aA)) (bp (aB (Vg (h _))) (UB (h _)) (.leaf _)))) (bp (bp (aT (bp (.leaf _) (UR (h _))
 (aB (xc h (bn Tryz.func397 aA)))) (aB (fm h (bn Tryz.func205 aA)))) (VF (h _)) (bp (aB (U8 (h _))) (afJ (h _)) (aB (fm h (bn Tryz.func237 aA)))))
 (Vy (h _)) (aT (bp (aB (afW (h _))) (V4 (h _)) (aB (fm h (bn Tryz.func221 aA)))) (aT (aB (fm h (bn Tryz.func189 aA))) (aB (fm h (bn Tryz.func253 (by
 kernel_rfl)))))))))) (aT (aT (aT (bp (aT (bp (bp (aB (fm h (bn Tryz.func256 aA))) (UF (h _)) (.leaf _)) (agy (h _)) (aB (Vm (h _)))) (bp (aB (U3 (h _))) (fm h (bn
 Tryz.func96 aA)) (.leaf _))) (U2 (h _)) (bp (aT (aB (UU (h _))) (aB (xc h (bn Tryz.func208 aA)))) (VL (h _)) (bp (bp (aB (xc h (bn Tryz.func304 (by
 kernel_rfl)))) (Vb (h _)) (.leaf _)) (Uw (h _)) (.leaf _)))) (aT (aT (aT (aB (UL (h _))) (bp (.leaf _) (Vt (h _)) (aB (fm h (bn Tryz.func456 aA))))) (.leaf _))
 (aT (bp (bp (aB (fm h (bn Tryz.func280 aA))) (xc h (bn Tryz.func152 aA)) (.leaf _)) (VZ (h _)) (aB (fm h (bn Tryz.func216 aA)))) (bp (bp
 (aB (fm h (bn Tryz.func312 aA))) (Vj (h _)) (.leaf _)) (UE (h _)) (.leaf _))))) (aT (aT (aT (bp (aB (UH (h _))) (VR (h _)) (bp (.leaf _) (Vp (h _)) (aB (VI
 (h _))))) (aT (.leaf _) (aB (fm h (bn Tryz.func228 aA))))) (aT (aT (bp (aB (fm h (bn Tryz.func276 aA))) (fm h (bn Tryz.func148 aA)) (.leaf
 _)) (aT (aB (fm h (bn Tryz.func340 aA))) (.leaf _))) (bp (aB (Vf (h _))) (UA (h _)) (.leaf _)))) (bp (aT (aT (bp (aB (fm h (bn Tryz.func268 aA))) (UQ
 (h _)) (.leaf _)) (aB (fm h (bn Tryz.func204 aA)))) (bp (.leaf _) (afI (h _)) (aB (fm h (bn Tryz.func236 aA))))) (Vx (h _)) (aT (bp (.leaf _) (V3 (h
 _)) (aB (fm h (bn Tryz.func220 aA)))) (aT (aB (fm h (bn Tryz.func188 aA))) (aB (fm h (bn Tryz.func252 aA)))))))) (aT (aT (aT (aT (bp (.leaf
 _) (VP (h _)) (bp (.leaf _) (Vo (h _)) (aB (VG (h _))))) (aT (aB (U5 (h _))) (.leaf _))) (bp (bp (bp (aB (xc h (bn Tryz.func274 aA))) (UX (h _)) (.leaf _)) (VV
 (h _)) (aB (fm h (bn Tryz.func210 aA)))) (VN (h _)) (bp (aB (Vd (h _))) (Uy (h _)) (.leaf _)))) (bp (bp (aT (bp (aB (fm h (bn Tryz.func266 aA))) (UN
 (h _)) (.leaf _)) (aB (Vv (h _)))) (VC (h _)) (aB (afG (h _)))) (agf (h _)) (aT (bp (aB (UZ (h _))) (V2 (h _)) (.leaf _)) (aT (bp (aB (fm h (bn Tryz.func314 aA)))
 (fm h (bn Tryz.func186 aA)) (.leaf _)) (aB (fm h (bn Tryz.func250 aA))))))) (bp (aT (aT (bp (aB (UJ (h _))) (VT (h _)) (bp (.leaf _) (Vr (h _)) (aB
 (fm h (bn Tryz.func454 aA))))) (aT (aT (aB (xc h (bn Tryz.func294 aA))) (.leaf _)) (aB (fm h (bn Tryz.func230 aA))))) (bp (bp (bp (aB (fm
 h (bn Tryz.func278 aA))) (fm h (bn Tryz.func150 aA)) (.leaf _)) (VX (h _)) (.leaf _)) (xc h (bn Tryz.func54 aA)) (bp (aB (Vh (h _)))
 (UC (h _)) (.leaf _)))) (UP (h _)) (aT (bp (bp (aB (US (h _))) (VU (h _)) (bp (aB (fm h (bn Tryz.func334 aA))) (fm h (bn Tryz.func206 aA)) (aB (fm
 h (bn Tryz.func462 aA))))) (VJ (h _)) (aT (aB (U9 (h _))) (aB (fm h (bn Tryz.func238 aA))))) (aT (bp (aB (U0 (h _))) (fm h (bn Tryz.func94 aA))
 (aB (fm h (bn Tryz.func222 aA)))) (aT (aB (af7 (h _))) (aB (fm h (bn Tryz.func254 aA))))))))))
end Go.ah.X
namespace Go.ah.X
open Go
theorem w8(v:V)(k:V->ax):aF (some v) k=k v:=Mz v k
theorem js(v:V)(s:S)(k:V->S->ax):bZ (some (v,s)) k=k v s:=by rw[B2]
theorem aiC(a b:ax):aW (.bool true) a b=a:=rfl
theorem aiB(a b:ax):aW (.bool false) a b=b:=rfl
theorem AQ(v:V)(l:List V):nth (v::l) 0=v:=rfl
theorem AP(v:V)(l:List V)(n:Nat):nth (v::l) (n+1)=nth l n:=rfl
theorem SA(k:IntKind)(t:Option cb)(a b:Int):bH .add t (.int k a) (.int k b)=some (.int k (k.wrap (a+b))):=by simp[bH,nQ,wH]
theorem aqL(k:IntKind)(t:Option cb)(a b:Int):bH .sub t (.int k a) (.int k b)=some (.int k (k.wrap (a - b))):=by simp[bH,nQ,wH]
theorem aqI(k:IntKind)(t:Option cb)(a b:Int):bH .mul t (.int k a) (.int k b)=some (.int k (k.wrap (a*b))):=by simp[bH,nQ,wH]
theorem Mg(k:IntKind)(t:Option cb)(a b:Int)(h:b≠0):bH .quo t (.int k a) (.int k b)=some (.int k (k.wrap (a.tdiv b))):=by
 have e:zW b (Int.ofNat 0)=false:=by rw[vJ];exact beq_eq_false_iff_ne.2 h
 simp only[bH,nQ,wH,e,beq_self_eq_true]
theorem SC(k:IntKind)(t:Option cb)(a b:Int)(h:b≠0):bH .rem t (.int k a) (.int k b)=some (.int k (a.tmod b)):=by
 have e:zW b (Int.ofNat 0)=false:=by rw[vJ];exact beq_eq_false_iff_ne.2 h
 simp only[bH,nQ,e,beq_self_eq_true]
theorem SB(k:IntKind)(t:Option cb)(a b:Int):bH .lss t (.int k a) (.int k b)=some (.bool (decide (a<b))):=by simp[bH,nQ,LS]
theorem aqH(k:IntKind)(t:Option cb)(a b:Int):bH .leq t (.int k a) (.int k b)=some (.bool (decide (a<=b))):=by simp[bH,nQ,LO]
theorem aqG(k:IntKind)(t:Option cb)(a b:Int):bH .gtr t (.int k a) (.int k b)=some (.bool (decide (b<a))):=by simp[bH,nQ,LS]
theorem aqF(k:IntKind)(t:Option cb)(a b:Int):bH .geq t (.int k a) (.int k b)=some (.bool (decide (b<=a))):=by simp[bH,nQ,LO]
theorem aqE(k:IntKind)(t:Option cb)(a b:Int):bH .eql t (.int k a) (.int k b)=some (.bool (decide (a=b))):=by
 by_cases h:a=b;simp[bH,vK,vJ,h];have e:(a == b)=false:=beq_eq_false_iff_ne.2 h;simp[bH,vK,vJ,h,e]
theorem aqJ(k:IntKind)(t:Option cb)(a b:Int):bH .neq t (.int k a) (.int k b)=some (.bool (decide (a≠b))):=by
 by_cases h:a=b;simp[bH,vK,vJ,h];have e:(a == b)=false:=beq_eq_false_iff_ne.2 h;simp[bH,vK,vJ,h,e]
theorem akr(o:Option V):ic (.bool true) true o=o:=rfl
theorem akm(o:Option V):ic (.bool false) false o=o:=rfl
theorem akq(o:Option V):ic (.bool true) false o=some (.da []):=rfl
theorem akn(o:Option V):ic (.bool false) true o=some (.da []):=rfl
theorem aks(w:Bool)(o:Option V):ic (.da []) w o=some (.da []):=rfl
theorem aqh(a b:V):di (.bool true) a b=some a:=rfl
theorem aqg(a b:V):di (.bool false) a b=some b:=rfl
theorem o8(b:Bool):un .not (.bool b)=some (.bool (!b)):=rfl
theorem G6(k:IntKind)(a:Int):un .neg (.int k a)=some (.int k (k.wrap (0 - a))):=rfl
structure Loc(ao s:S):Prop where
 n:ao.n<=s.n
 eK:ao.n<=s.ag
 ag:s.ag<=s.n
theorem Loc.refl{s:S}(h:s.ag=s.n):Loc s s:=⟨cg _,Nat.le_of_eq h.symm,Nat.le_of_eq h⟩
structure dN(ao s:S)(b:Nat)(cs:List V)(e:Nat)(bw:Bool):Prop where
 lo:ao.n<=b
 hi:b<s.n
 get:s.h.get b=some (.cells cs e bw true)
end Go.ah.X
