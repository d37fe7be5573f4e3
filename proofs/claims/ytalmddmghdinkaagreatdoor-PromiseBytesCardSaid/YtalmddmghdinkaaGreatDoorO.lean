/-
  A part of the proof of PromiseBytes: lemmas, in short letters, printed by a program out of the longer texts; conditions: those that each lemma names.
-/
import Derived.Test.YtalmddmghdinkaaGreatDoorN
set_option linter.all false
set_option linter.deprecated false
noncomputable section
namespace Go.Vm.X
open Go Go.Vm Go.Proofs Go.Proofs.bt
set_option maxRecDepth 100000
def F8 (c:CF) (n:Nat) (a b d:V) (e:S):bB:=
 af (aq e (bM 37 a (aw e))) fun a f=>af (aq f (aT [(.int .i64 0),(.int .i64 0),(.int .i64 0),.ah,.ah] 37 (aw f))) fun f g=>af (aq g (dL 1 0 3 (bz
 0 [(.int .i64 0)]) [] (aw g))) fun g h=>ae (aJ 3 a) fun i=>ae (aM h i) fun i=>af (aq h (bT iV 3 g i (aw h))) fun g h=>ae (aJ 3 a) fun i=>af (aq
 h (aB 1 i g (aw h))) fun _ g=>af (aq g (dL 16 0 49 (bz 0 [(.bool false),.ah,(.bool false),.ah,(.bool false),.ah,(.bool false),.ah,(.bool false),.ah,
 (.bool false),.ah,(.bool false),.ah,(.bool false),.ah]) [] (aw g))) fun g h=>ae (aJ 4 a) fun i=>ae (aM h i) fun i=>af (aq h (bT mP 49 g i (aw h)))
 fun g h=>ae (aJ 4 a) fun i=>af (aq h (aB 1 i g (aw h))) fun _ g=>af (au c false false (.fn 9 [] []) [b,(.int .i64 6)] g) fun b g=>jn (fun h i=>ae (aD
 5 i (nth h 0)) fun j=>af (aq i (aB 5 (nth h 1) j (aw i))) fun _ i=>aC e i [aD 5 i (nth h 1)]) fun e=>ae (an .eql y3 b (.int .i64 0)) fun h=>jn (fun i j=>e
 [(nth i 0),(nth i 1)] j) fun e=>ax h ( ai (aj none g (ar (some []) g (aJ 1 a))) fun h i j=>ai (aj none i (ar (some (ag.aF h)) i (aM i h))) fun h i k
 =>ai (aj none i (ar (some []) i (an .sub y3 h (.int .i64 1)))) fun h i l=>ai (aj none i (bk i d)) fun i m o=>ai (aj none m (aH c (.fn 9 [] []) [i,(.int .i64
 4)] m)) fun i m p=>ai (aj none m (ar (some []) m (an .add y3 h i))) fun h i m=>ai (aj none i (ar (some []) i (aJ 2 a))) fun i q r=>ai (aj none q (dD (some
 (ag.aF i)) (some (ag.aF i)) q (aB 1 i h (aw q)))) fun _ h i=>bU (bE [0,1,3,0,8,31,63,127] [j,k,l,o,p,m,r,i]) <| e [a,f] h) ( ae (an .eql y3
 b (.int .i64 1)) fun h=>jn (fun i j=>e [(nth i 0),(nth i 1)] j) fun e=>ax h ( ae (aJ 3 a) fun h=>ae (aM g h) fun h=>ae (aN h) fun h=>ae (an .gtr y3
 h (.int .i64 0)) fun h=>jn (fun i j=>e [(nth i 0),(nth i 1)] j) fun i=>ax h ( ai (aj none g (ar (some []) g (aJ 3 a))) fun h j k=>ai (aj none j (ar (some
 (ag.aF h)) j (aM j h))) fun h j l=>ai (aj none j (bk j d)) fun j m o=>ai (aj none m (ar (some []) m (aJ 3 a))) fun m p q=>ai (aj none p (ar (some
 (ag.aF m)) p (aM p m))) fun m p r=>ai (aj none p (ar (some ([m].flatMap ag.aF)) p (aN m))) fun m p s=>ai (aj none p (aH c (.fn 9 [] []) [j,m] p))
 fun j m p=>ai (aj none m (bk m d)) fun m t u=>ai (aj none t (aH c (.fn 9 [] []) [m,(.int .i64 9)] t)) fun m t v=>ai (aj none t (ar (some []) t (an .sub
 y3 m (.int .i64 1)))) fun m t w=>ai (aj none t (ar (some []) t (ck 1 h j))) fun h j t=>ai (aj none j (dD (some (ag.aF h)) (some (ag.aF h)) j (aB 1 h
 m (aw j)))) fun _ h j=>bU (bE [0,1,0,0,8,24,60,0,252,508,1023,2047] [k,l,o,q,r,s,p,u,v,w,t,j]) <| i [a,f] h) ( i [a,f] g)) ( ae (an .eql y3 b (.int .i64
 2)) fun h=>jn (fun i j=>e [(nth i 0),(nth i 1)] j) fun e=>ax h ( ai (aj none g (ar (some []) g (aJ 3 a))) fun h i j=>ai (aj none i (ar (some (ag.aF
 h)) i (aM i h))) fun h i k=>ai (aj none i (bk i d)) fun i l m=>ai (aj none l (aH c (.fn 9 [] []) [i,(.int .i64 20)] l)) fun i l o=>ai (aj none l (dD (some
 []) (some []) l (dL 1 1 3 (bz 1 [(.int .i64 0)]) [(0,1,i)] (aw l)))) fun i l p=>ai (aj none l (dD (some ([h,i].flatMap ag.aF)) (some (ag.aF h)) l (bT
 iV 3 h i (aw l)))) fun h i l=>ai (aj none i (ar (some []) i (aJ 3 a))) fun i q r=>ai (aj none q (dD (some (ag.aF i)) (some (ag.aF i)) q (aB 1 i h
 (aw q)))) fun _ h i=>bU (bE [0,1,0,4,12,31,63,127] [j,k,m,o,p,l,r,i]) <| e [a,f] h) ( ae (an .eql y3 b (.int .i64 3)) fun h=>jn (fun i j=>e [(nth i
 0),(nth i 1)] j) fun e=>ax h ( ae (aJ 4 a) fun h=>ae (aM g h) fun h=>ae (aJ 4 a) fun i=>ae (aM g i) fun i=>ae (aN i) fun i=>ae (an .quo y3
 i (.int .i64 2)) fun i=>ae (gE 16 h none (some i) none) fun h=>ae (aJ 4 a) fun i=>af (aq g (aB 1 i h (aw g))) fun _ h=>e [a,f] h) ( ae (an .eql y3 b (.int .i64
 4)) fun b=>jn (fun h i=>e [(nth h 0),(nth h 1)] i) fun e=>ax b ( ae (aJ 4 a) fun b=>ae (aM g b) fun b=>ae (aN b) fun b=>ae (an .gtr y3 b (.int .i64
 0)) fun b=>jn (fun h i=>e [(nth h 0),(nth h 1)] i) fun h=>ax b ( ae (aJ 4 a) fun b=>ae (aM g b) fun b=>ae (aN b) fun b=>af (au c false true (.fn 9
 [] []) [d,b] g) fun b i=>ai (aj none i (ar (some []) i (aJ 4 a))) fun i j k=>ai (aj none j (ar (some (ag.aF i)) j (aM j i))) fun i j l=>ai (aj none
 j (bk j b)) fun j m o=>ai (aj none m (ar (some []) m (aJ 4 a))) fun m p q=>ai (aj none p (ar (some (ag.aF m)) p (aM p m))) fun m p r=>ai (aj none
 p (bk p b)) fun b p s=>ai (aj none p (ar (some []) p (ck 16 m b))) fun b m p=>ai (aj none m (ar (some []) m (aJ 8 b))) fun b m t=>ai (aj none m (ar
 (some []) m (aJ 0 b))) fun b m u=>ai (aj none m (ar (some (ag.aF b)) m (aD 4 m b))) fun b m v=>ai (aj none m (bk m d)) fun m w x=>ai (aj none w (aH
 c (.fn 9 [] []) [m,(.int .i64 5)] w)) fun m w y=>ai (aj none w (aH c (.fn 28 [] []) [m,(.int .i64 2)] w)) fun m w z=>ai (aj none w (aH c (.fn 33 [] []) [b,m]
 w)) fun b m w=>ai (aj none m (ar (some []) m (ck 16 i j))) fun i j m=>ai (aj none j (ar (some []) j (aJ 8 i))) fun i j A=>ai (aj none j (ar (some [])
 j (aJ 0 i))) fun i j B=>ai (aj none j (dD (some (ag.aF i)) (some (ag.aF i)) j (aB 4 i b (aw j)))) fun _ b i=>bU (bE [0,1,0,0,8,0,56,120,248,
 504,0,1024,3072,8184,16383,32767,65535,131071] [k,l,o,q,r,s,p,t,u,v,x,y,z,w,m,A,B,i]) <| h [a,f] b) ( h [a,f] g)) ( ai (aj none g (ar (some []) g
 (aJ 1 a))) fun b g h=>ai (aj none g (ar (some (ag.aF b)) g (aM g b))) fun b g i=>ai (aj none g (bk g d)) fun d g j=>ai (aj none g (aH c (.fn 9
 [] []) [d,(.int .i64 5)] g)) fun d g k=>ai (aj none g (ar (some []) g (an .sub y3 b d))) fun b d g=>ai (aj none d (ar (some []) d (aJ 1 a))) fun d l m=>ai
 (aj none l (dD (some (ag.aF d)) (some (ag.aF d)) l (aB 1 d b (aw l)))) fun _ b d=>bU (bE [0,1,0,4,15,31,63] [h,i,j,k,g,m,d]) <| e [a,f] b)))))
theorem E8 {O:aL} (h:O 8=none):cc O funcs types 8 (pR F8):= .pR h (aG Tryz.func8 (by kernel_rfl)) fun _ _ _ _ _ _=>by kernel_rfl
def Vw (c:CF) (n:Nat) (a:V) (b:S):bB:=
 af (aq b (bM 37 a (aw b))) fun a d=>af (aq d (aT [(.int .i64 0),(.int .i64 0),(.int .i64 0),.ah,.ah] 55 (aw d))) fun d e=>ae (aJ 0 a) fun f=>ae
 (aM e f) fun f=>ae (aJ 1 a) fun g=>ae (aM e g) fun g=>ae (aJ 2 a) fun h=>ae (aM e h) fun h=>ae (aJ 3 a) fun i=>ae (aM e i) fun i=>ae (aI
 [(.int .i64 0),(.int .i64 0),(.int .i64 0),.ah,.ah] [(0,1,f),(1,1,g),(2,1,h),(3,1,i)]) fun f=>af (aq e (aT [(.int .i64 0),(.int .i64 0),(.int .i64 0),.ah,.ah]
 55 (aw e))) fun e g=>af (aq g (aB 5 e f (aw g))) fun _ f=>jn (fun g h=>ae (aD 5 h (nth g 0)) fun i=>af (aq h (aB 5 (nth g 1) i (aw h))) fun _ h=>aC
 b h [aD 5 h (nth g 1)]) fun b=>bJ n (fun g h i=>ae (aJ 4 (nth h 1)) fun j=>ae (aM i j) fun j=>ae (aN j) fun j=>ae (an .lss y3 (nth h 0) j) fun j=>jn
 (fun k l=>jn (fun m o=>ae (an .add y3 (nth m 0) (.int .i64 1)) fun p=>g [p,(nth m 1),(nth m 2),(nth m 3)] o) fun g=>ae (aJ 4 (nth k 2)) fun m=>ae (aM l m)
 fun m=>ae (aJ 4 (nth k 1)) fun o=>ae (aM l o) fun o=>ae (ck 16 o (nth k 0)) fun o=>ae (aJ 0 o) fun o=>ae (aD 8 l o) fun o=>ae (aJ 4 (nth k 1)) fun
 p=>ae (aM l p) fun p=>ae (ck 16 p (nth k 0)) fun p=>ae (aJ 8 p) fun p=>ae (aD 8 l p) fun p=>ae (aI [(.bool false),.ah,(.bool false),.ah,(.bool
 false),.ah,(.bool false),.ah,(.bool false),.ah,(.bool false),.ah,(.bool false),.ah,(.bool false),.ah] [(0,8,o),(8,8,p)]) fun o=>af (aq l (dL 16
 1 108 (bz 1 [(.bool false),.ah,(.bool false),.ah,(.bool false),.ah,(.bool false),.ah,(.bool false),.ah,(.bool false),.ah,(.bool false),.ah,(.bool false),.ah])
 [(0,16,o)] (aw l))) fun l o=>af (aq o (bT sw 108 m l (aw o))) fun l m=>ae (aJ 4 (nth k 2)) fun o=>af (aq m (aB 1 o l (aw m))) fun _ l=>g [(nth k 0),
 (nth k 1),(nth k 2),(nth k 3)] l) fun g=>ax j ( g [(nth h 0),(nth h 1),(nth h 2),(nth h 3)] i) ( b [(nth h 2),(nth h 3)] i)) [(.int .i64 0),a,e,d] f
theorem E12 {O:aL} (h:O 12=none):cc O funcs types 12 (cR Vw):= .cR h (aG Tryz.func12 (by kernel_rfl)) fun _ _ _ _=>by kernel_rfl
def S6 (c:CF) (n:Nat) (a b:V) (d:S):bB:=
 af (aq d (bM 37 a (aw d))) fun a e=>af (aq e (bM 37 b (aw e))) fun b e=>ae (aJ 0 a) fun f=>ae (aM e f) fun f=>ae (aJ 0 b) fun g=>ae (aM e
 g) fun g=>ae (an .neq y3 f g) fun f=>ae (ay f false (aJ 1 a)) fun g=>ae (ay f false (aM e g)) fun g=>ae (ay f false (aJ 1 b)) fun h=>ae (ay f false
 (aM e h)) fun h=>ae (ay f false (an .neq y3 g h)) fun g=>ae (bn f (.bool true) g) fun f=>ae (ay f false (aJ 2 a)) fun g=>ae (ay f false (aM e g)) fun
 g=>ae (ay f false (aJ 2 b)) fun h=>ae (ay f false (aM e h)) fun h=>ae (ay f false (an .neq y3 g h)) fun g=>ae (bn f (.bool true) g) fun f=>ae (ay
 f false (aJ 3 a)) fun g=>ae (ay f false (aM e g)) fun g=>ae (ay f false (aJ 3 b)) fun h=>ae (ay f false (aM e h)) fun h=>af (fT f false (au c false
 true (.fn 47 [] []) [g,h] e) e) fun e g=>ae (ay f false (un .not e)) fun e=>ae (bn f (.bool true) e) fun e=>ae (ay e false (aJ 4 a)) fun f=>ae (ay e false
 (aM g f)) fun f=>ae (ay e false (aN f)) fun f=>ae (ay e false (aJ 4 b)) fun h=>ae (ay e false (aM g h)) fun h=>ae (ay e false (aN h)) fun h=>ae
 (ay e false (an .neq y3 f h)) fun f=>ae (bn e (.bool true) f) fun e=>jn (fun f h=>jn (fun _ i=>aC d i [some (.bool true)]) fun i=>bJ n (fun j k l=>ae (aJ
 4 (nth k 1)) fun m=>ae (aM l m) fun m=>ae (aN m) fun m=>ae (an .lss y3 (nth k 0) m) fun m=>jn (fun o p=>jn (fun q r=>ae (an .add y3 (nth q 0) (.int .i64
 1)) fun s=>j [s,(nth q 1),(nth q 2)] r) fun j=>ae (aJ 4 (nth o 1)) fun q=>ae (aM p q) fun q=>ae (ck 16 q (nth o 0)) fun q=>ae (aD 16 p q) fun q=>ae
 (aJ 4 (nth o 2)) fun r=>ae (aM p r) fun r=>ae (ck 16 r (nth o 0)) fun r=>ae (aD 16 p r) fun r=>af (au c true false (.fn 48 [] []) [q,r] p) fun p q=>ae
 (un .not p) fun p=>jn (fun r s=>j [(nth r 0),(nth r 1),(nth r 2)] s) fun j=>ax p ( aC d q [some (.bool false)]) ( j [(nth o 0),(nth o 1),(nth o 2)] q)) fun j=>ax
 m ( j [(nth k 0),(nth k 1),(nth k 2)] l) ( i [] l)) [(.int .i64 0),(nth f 0),(nth f 1)] h) fun f=>ax e ( aC d g [some (.bool false)]) ( f [a,b] g)
theorem E16 {O:aL} (h:O 16=none):cc O funcs types 16 (bR S6):= .bR h (aG Tryz.func16 (by kernel_rfl)) fun _ _ _ _ _=>by kernel_rfl
def Vx (c:CF) (n:Nat) (a:V) (b:S):bB:=
 af (aq b (bM 37 a (aw b))) fun a d=>ae (aJ 3 a) fun e=>ae (aM d e) fun e=>ae (aN e) fun e=>ae (aJ 4 a) fun f=>ae (aM d f) fun f=>ae (aN
 f) fun f=>ae (an .neq y3 e f) fun e=>ae (ay e false (aJ 1 a)) fun f=>ae (ay e false (aM d f)) fun f=>ae (ay e false (aJ 2 a)) fun g=>ae (ay e false
 (aM d g)) fun g=>ae (ay e false (an .gtr y3 f g)) fun f=>ae (bn e (.bool true) f) fun e=>jn (fun f g=>jn (fun _ h=>aC b h [some (.bool true)]) fun h=>bJ
 n (fun i j k=>ae (aJ 3 (nth j 1)) fun l=>ae (aM k l) fun l=>ae (aN l) fun l=>ae (an .lss y3 (nth j 0) l) fun l=>jn (fun m o=>jn (fun p q=>ae (an .add
 y3 (nth p 0) (.int .i64 1)) fun r=>i [r,(nth p 1)] q) fun i=>ae (aJ 3 (nth m 1)) fun p=>ae (aM o p) fun p=>ae (ck 1 p (nth m 0)) fun p=>ae (aM o p) fun p
 =>ae (an .lss y3 p (.int .i64 0)) fun p=>ae (ay p false (some (nth m 0))) fun q=>ae (ay p false (an .gtr y3 q (.int .i64 0))) fun q=>ae (ay p false (some
 q)) fun q=>ae (ay q true (aJ 3 (nth m 1))) fun r=>ae (ay q true (aM o r)) fun r=>ae (ay q true (some (nth m 0))) fun s=>ae (ay q true (ck 1 r s)) fun
 r=>ae (ay q true (aM o r)) fun r=>ae (ay q true (aJ 3 (nth m 1))) fun s=>ae (ay q true (aM o s)) fun s=>ae (ay q true (some (nth m 0))) fun t=>ae
 (ay q true (an .sub y3 t (.int .i64 1))) fun t=>ae (ay q true (ck 1 s t)) fun s=>ae (ay q true (aM o s)) fun s=>ae (ay q true (an .leq y3 r s)) fun r=>
 ae (ay p false (bn q r (.bool false))) fun q=>ae (bn p (.bool true) q) fun p=>jn (fun q r=>i [(nth q 0),(nth q 1)] r) fun i=>ax p ( aC b o [some (.bool false)])
 ( i [(nth m 0),(nth m 1)] o)) fun i=>ax l ( i [(nth j 0),(nth j 1)] k) ( h [] k)) [(.int .i64 0),(nth f 0)] g) fun f=>ax e ( aC b d [some (.bool false)]) ( f [a] d)
theorem E18 {O:aL} (h:O 18=none):cc O funcs types 18 (cR Vx):= .cR h (aG Tryz.func18 (by kernel_rfl)) fun _ _ _ _=>by kernel_rfl
def Vy (c:CF) (n:Nat) (a:V) (b:S):bB:=
 af (aq b (bM 55 a (aw b))) fun a d=>ae (aD 5 d a) fun e=>af (au c false false (.fn 41 [] []) [e] d) fun d e=>ae (un .not d) fun d=>jn (fun f g=>ai
 (aj none g (ar (some []) g (aJ 0 (nth f 0)))) fun g h i=>ai (aj none h (ar (some (ag.aF g)) h (aM h g))) fun g h j=>ai (aj none h (ar (some []) h (aJ
 1 (nth f 0)))) fun h k l=>ai (aj none k (ar (some (ag.aF h)) k (aM k h))) fun h k m=>ai (aj none k (ar (some []) k (aJ 2 (nth f 0)))) fun k o p=>ai
 (aj none o (ar (some (ag.aF k)) o (aM o k))) fun k o q=>ai (aj none o (dD (some []) (some []) o (dL 1 3 3 (bz 3 [(.int .i64 0)]) [(0,1,g),(1,1,h),(2,1,
 k)] (aw o)))) fun g h k=>ai (aj none h (aH c (.fn 56 [] []) [g] h)) fun g h o=>ai (aj none h (ar (some []) h (aJ 3 (nth f 0)))) fun h r s=>ai (aj none r
 (ar (some (ag.aF h)) r (aM r h))) fun h r t=>ai (aj none r (aH c (.fn 56 [] []) [h] r)) fun h r u=>ai (aj none r (dD (some ([g,h].flatMap ag.aF))
 (some (ag.aF g)) r (bT iE 5 g h (aw r)))) fun g h r=>ai (aj none h (bk h g)) fun g h v=>bU (bE [0,1,0,4,0,16,63,127,0,256,1023,2047,4095] [i,
 j,l,m,p,q,k,o,s,t,u,r,v]) <| ae (aJ 4 (nth f 0)) fun f=>ae (aM h f) fun f=>ae (aN f) fun i=>jn (fun j k=>aC b k [some (nth j 0)]) fun j=>bJ n
 (fun k l m=>ae (an .lss y3 (nth l 0) (nth l 1)) fun o=>jn (fun p q=>jn (fun r s=>ae (an .add y3 (nth r 0) (.int .i64 1)) fun t=>k [t,(nth r 1),(nth r 2),(nth
 r 3)] s) fun k=>ae (ck 16 (nth p 3) (nth p 1)) fun r=>ae (aD 16 q r) fun r=>af (aq q (aT [(.bool false),.ah,(.bool false),.ah,(.bool false),.ah,(.bool
 false),.ah,(.bool false),.ah,(.bool false),.ah,(.bool false),.ah,(.bool false),.ah] 108 (aw q))) fun q s=>af (aq s (aB 16 q r (aw s))) fun _ r=>ae
 (aJ 0 q) fun s=>ae (aJ 0 s) fun s=>ae (aD 4 r s) fun s=>af (au c true false (.fn 58 [] []) [s] r) fun r s=>ae (aJ 0 q) fun t=>ae (aJ 4 t) fun t=>ae
 (aD 4 s t) fun t=>af (au c true false (.fn 58 [] []) [t] s) fun s t=>ae (aJ 8 q) fun u=>ae (aJ 0 u) fun u=>ae (aD 4 t u) fun u=>af (au c true false
 (.fn 58 [] []) [u] t) fun t u=>ae (aJ 8 q) fun q=>ae (aJ 4 q) fun q=>ae (aD 4 u q) fun q=>af (au c true false (.fn 58 [] []) [q] u) fun q u=>af (aq
 u (dL 1 5 70 (bz 5 [.ah]) [(0,1,(nth p 0)),(1,1,r),(2,1,s),(3,1,t),(4,1,q)] (aw u))) fun q r=>af (au c true false (.fn 57 [] []) [q] r) fun q r=>k [(nth
 p 1),(nth p 2),(nth p 3),q] r) fun k=>ax o ( k [(nth l 3),(nth l 0),(nth l 1),(nth l 2)] m) ( j [(nth l 3)] m)) [(.int .i64 0),i,f,g] h) fun f=>ax d ( aC b e [some .ah])
 ( f [a] e)
theorem E22 {O:aL} (h:O 22=none):cc O funcs types 22 (cR Vy):= .cR h (aG Tryz.func22 (by kernel_rfl)) fun _ _ _ _=>by kernel_rfl
def Tb (c:CF) (n:Nat) (a b d:V) (e:S):bB:=
 ae (an .lss y3 b (.int .i64 0)) fun f=>ae (ay f false (some b)) fun g=>ae (ay f false (some a)) fun h=>ae (ay f false (aN h)) fun h=>ae (ay f false
 (an .geq y3 g h)) fun g=>ae (bn f (.bool true) g) fun f=>jn (fun g h=>ae (ck 1 (nth g 0) (nth g 1)) fun i=>ae (aM h i) fun i=>af (au c false false (.fn
 9 [] []) [i,(nth g 2)] h) fun g h=>aC e h [some g]) fun g=>ax f ( aC e e [some (.int .i64 0)]) ( g [a,b,d] e)
theorem E29 {O:aL} (h:O 29=none):cc O funcs types 29 (pR Tb):= .pR h (aG Tryz.func29 (by kernel_rfl)) fun _ _ _ _ _ _=>by kernel_rfl
def Tf (c:CF) (n:Nat) (a:V) (b:S):bB:=
 ae (an .eql (Tr.get types 22) a .ah) fun d=>jn (fun e f=>af (aq f (dL 1 0 3 (bz 0 [(.int .i64 0)]) [] (aw f))) fun f g=>af (aq g (bT iV 3 f (nth e 0)
 (aw g))) fun e f=>aC b f [some e]) fun e=>ax d ( aC b b [some .ah]) ( e [a] b)
theorem E45 {O:aL} (h:O 45=none):cc O funcs types 45 (cR Tf):= .cR h (aG Tryz.func45 (by kernel_rfl)) fun _ _ _ _=>by kernel_rfl
def Th (c:CF) (n:Nat) (a b:V) (d:S):bB:=
 af (aq d (bM 49 a (aw d))) fun a e=>af (aq e (bM 49 b (aw e))) fun b e=>ae (aJ 0 a) fun f=>ae (aJ 0 f) fun f=>ae (aD 4 e f) fun f=>ae (aJ
 0 b) fun g=>ae (aJ 0 g) fun g=>ae (aD 4 e g) fun g=>af (au c false false (.fn 78 [] []) [f,g] e) fun e f=>ae (an .eql y3 e (.int .i64 0)) fun e=>ae
 (ay e true (aJ 0 a)) fun g=>ae (ay e true (aJ 4 g)) fun g=>ae (ay e true (aD 4 f g)) fun g=>ae (ay e true (aJ 0 b)) fun h=>ae (ay e true (aJ 4 h))
 fun h=>ae (ay e true (aD 4 f h)) fun h=>af (fT e true (au c false false (.fn 78 [] []) [g,h] f) f) fun f g=>ae (ay e true (an .eql y3 f (.int .i64 0))) fun
 f=>ae (bn e f (.bool false)) fun e=>ae (ay e true (aJ 8 a)) fun f=>ae (ay e true (aJ 0 f)) fun f=>ae (ay e true (aD 4 g f)) fun f=>ae (ay e true
 (aJ 8 b)) fun h=>ae (ay e true (aJ 0 h)) fun h=>ae (ay e true (aD 4 g h)) fun h=>af (fT e true (au c false false (.fn 78 [] []) [f,h] g) g) fun f g=>ae
 (ay e true (an .eql y3 f (.int .i64 0))) fun f=>ae (bn e f (.bool false)) fun e=>ae (ay e true (aJ 8 a)) fun a=>ae (ay e true (aJ 4 a)) fun a=>ae (ay
 e true (aD 4 g a)) fun a=>ae (ay e true (aJ 8 b)) fun b=>ae (ay e true (aJ 4 b)) fun b=>ae (ay e true (aD 4 g b)) fun b=>af (fT e true (au c false
 false (.fn 78 [] []) [a,b] g) g) fun a b=>ae (ay e true (an .eql y3 a (.int .i64 0))) fun a=>ae (bn e a (.bool false)) fun a=>aC d b [some a]
theorem E48 {O:aL} (h:O 48=none):cc O funcs types 48 (bR Th):= .bR h (aG Tryz.func48 (by kernel_rfl)) fun _ _ _ _ _=>by kernel_rfl
def VF (c:CF) (n:Nat) (a:V) (b:S):bB:=
 af (aq b (bM 45 a (aw b))) fun a d=>ai (aj none d (ar (some []) d (aJ 0 a))) fun d e f=>ai (aj none e (ar (some (ag.aF d)) e (aD 2 e d))) fun d
 e g=>ai (aj none e (aH c (.fn 102 [] []) [d] e)) fun d e h=>ai (aj none e (ar (some []) e (aJ 2 a))) fun a e i=>ai (aj none e (ar (some (ag.aF a))
 e (aD 2 e a))) fun a e j=>ai (aj none e (aH c (.fn 102 [] []) [a] e)) fun a e k=>ai (aj none e (dD (some ([d,a].flatMap ag.aF)) (some (ag.aF d)) e (bT
 iE 5 d a (aw e)))) fun a d e=>ai (aj none d (bk d a)) fun a d l=>bU (bE [0,1,3,0,8,31,63,127] [f,g,h,i,j,k,e,l]) <| aC b d [some a]
theorem E60 {O:aL} (h:O 60=none):cc O funcs types 60 (cR VF):= .cR h (aG Tryz.func60 (by kernel_rfl)) fun _ _ _ _=>by kernel_rfl
def Tk (c:CF) (n:Nat) (a b:V) (d:S):bB:=
 ae (aN a) fun e=>ae (aN b) fun f=>ae (an .geq y3 e f) fun e=>ae (ay e true (some a)) fun a=>ae (ay e true (some b)) fun f=>ae (ay e true (aN
 f)) fun f=>ae (ay e true (gE 1 a none (some f) none)) fun a=>ae (ay e true (some b)) fun b=>af (fT e true (au c false true (.fn 107 [] []) [a,b] d) d) fun
 a b=>ae (bn e a (.bool false)) fun a=>aC d b [some a]
theorem E63 {O:aL} (h:O 63=none):cc O funcs types 63 (bR Tk):= .bR h (aG Tryz.func63 (by kernel_rfl)) fun _ _ _ _ _=>by kernel_rfl
def Tl (c:CF) (n:Nat) (a:V) (b:S):bB:=
 af (au c false false (.fn 108 [] []) [a,(.int .i64 1)] b) fun d e=>ae (cV 0 d) fun f=>ae (cV 1 d) fun g=>ae (cV 2 d) fun d=>ae (an .neq (Tr.get types
 58) d (.int .i64 0)) fun h=>jn (fun i j=>jn (fun k l=>aC b l [some (nth k 0),some (nth k 1),some (.int .i64 0)]) fun k=>bJ n (fun l m o=>ae (an .lss y3 (nth m
 0) (nth m 1)) fun p=>jn (fun q r=>jn (fun s t=>ae (an .add y3 (nth s 0) (.int .i64 1)) fun u=>l [u,(nth s 1),(nth s 2),(nth s 3),(nth s 4)] t) fun l=>ae (gE 1
 (nth q 4) (some (nth q 1)) none none) fun s=>af (au c false false (.fn 109 [] []) [s] r) fun r s=>ae (cV 0 r) fun t=>ae (cV 1 r) fun u=>ae (cV 2 r) fun r=>
 ae (an .neq (Tr.get types 58) r (.int .i64 0)) fun v=>jn (fun w x=>af (aq x (dL 1 1 3 (bz 1 [(.int .i64 0)]) [(0,1,(nth w 1))] (aw x))) fun x y=>af (aq y
 (bT iV 3 (nth w 0) x (aw y))) fun x y=>ae (an .add y3 (nth w 2) (nth w 3)) fun z=>l [(nth w 4),(nth w 5),(nth w 6),x,z] y) fun l=>ax v ( aC b s [some .ah,
 some (.int .i64 0),some r]) ( l [(nth q 0),t,(nth q 1),u,(nth q 2),(nth q 3),(nth q 4)] s)) fun l=>ax p ( l [(nth m 3),(nth m 4),(nth m 0),(nth m 1),(nth m 2)] o) (
 k [(nth m 3),(nth m 4)] o)) [(.int .i64 0),(nth i 0),(nth i 1),.ah,(nth i 2)] j) fun i=>ax h ( aC b e [some .ah,some (.int .i64 0),some d]) ( i [f,a,g] e)
theorem E64 {O:aL} (h:O 64=none):cc O funcs types 64 (cR Tl):= .cR h (aG Tryz.func64 (by kernel_rfl)) fun _ _ _ _=>by kernel_rfl
def Tm (c:CF) (n:Nat) (a b:V) (d:S):bB:=
 af (aq d (bM 43 a (aw d))) fun a e=>af (aq e (bM 43 b (aw e))) fun b e=>af (aq e (aT [(.bool false),.ah,(.bool false),.ah] 45 (aw e))) fun e f=>
 ae (aJ 1 b) fun g=>ae (aM f g) fun g=>ae (aN g) fun g=>ae (an .eql y3 g (.int .i64 0)) fun g=>ae (ay g false (aJ 1 a)) fun h=>ae (ay g false (aM
 f h)) fun h=>ae (ay g false (aN h)) fun h=>ae (ay g false (an .eql y3 h (.int .i64 0))) fun h=>ae (bn g (.bool true) h) fun g=>jn (fun h i=>ae (aD
 2 i (nth h 0)) fun j=>ae (aD 2 i (nth h 1)) fun k=>af (au c false true (.fn 112 [] []) [j,k] i) fun i j=>af (aq j (aT [(.bool false),.ah] 43 (aw j))) fun
 j k=>af (aq k (aB 2 j i (aw k))) fun _ i=>ae (aD 2 i (nth h 0)) fun k=>ae (aD 2 i j) fun l=>af (au c false true (.fn 113 [] []) [k,l] i) fun i k=>ae
 (cV 0 i) fun l=>ae (cV 1 i) fun i=>af (aq k (aT [(.bool false),.ah] 43 (aw k))) fun k m=>af (aq m (aT [(.bool false),.ah] 43 (aw m))) fun m o=>af
 (aq o (aB 2 k l (aw o))) fun _ l=>af (aq l (aB 2 m i (aw l))) fun _ i=>ae (aD 2 i (nth h 1)) fun l=>ae (aD 2 i j) fun j=>af (au c false true (.fn
 113 [] []) [l,j] i) fun i j=>ae (cV 0 i) fun l=>ae (cV 1 i) fun i=>af (aq j (aT [(.bool false),.ah] 43 (aw j))) fun j m=>af (aq m (aT [(.bool false),.ah]
 43 (aw m))) fun m o=>af (aq o (aB 2 j l (aw o))) fun _ l=>af (aq l (aB 2 m i (aw l))) fun _ i=>ae (aJ 0 j) fun l=>ae (aM i l) fun l=>jn (fun m o=>
 ae (aD 2 o (nth m 1)) fun p=>af (au c false false (.fn 115 [] []) [p] o) fun o p=>jn (fun q r=>ae (aD 2 r (nth q 0)) fun s=>ae (aD 2 r (nth q 1)) fun t=>
 ae (aI [(.bool false),.ah,(.bool false),.ah] [(0,2,s),(2,2,t)]) fun s=>af (aq r (aB 4 (nth q 2) s (aw r))) fun _ r=>aC d r [aD 4 r (nth q 2)]) fun q
 =>ax o ( ae (aD 2 p (nth m 0)) fun o=>ae (aI [(.bool false),.ah,(.bool false),.ah] [(0,2,o)]) fun o=>af (aq p (aB 4 (nth m 2) o (aw p))) fun _ o=>
 aC d o [aD 4 o (nth m 2)]) ( q [(nth m 0),(nth m 1),(nth m 2)] p)) fun m=>ax l ( ae (aD 2 i k) fun l=>af (au c false true (.fn 114 [] []) [l] i) fun l o=>af
 (aq o (aB 2 k l (aw o))) fun _ l=>ae (aD 2 l j) fun o=>af (au c false true (.fn 114 [] []) [o] l) fun l o=>af (aq o (aB 2 j l (aw o))) fun _ l=>m [k,
 j,(nth h 2)] l) ( m [k,j,(nth h 2)] i)) fun h=>ax g ( ae (aI [(.bool false),.ah,(.bool false),.ah] []) fun g=>af (aq f (aB 4 e g (aw f))) fun _ g=>aC
 d g [aD 4 g e]) ( h [a,b,e] f)
theorem E66 {O:aL} (h:O 66=none):cc O funcs types 66 (bR Tm):= .bR h (aG Tryz.func66 (by kernel_rfl)) fun _ _ _ _ _=>by kernel_rfl
def Tn (c:CF) (n:Nat) (a:V) (b:S):bB:=
 af (aq b (aT [(.bool false),.ah] 43 (aw b))) fun d e=>ae (an .lss y3 a (.int .i64 0)) fun f=>jn (fun g h=>af (au c false true (.fn 116 [] []) [(nth g 0),
 (nth g 1)] h) fun h i=>af (aq i (aB 2 (nth g 2) h (aw i))) fun _ h=>aC b h [aD 2 h (nth g 2)]) fun b=>bJ n (fun g h i=>ae (an .neq y3 (nth h 0) (.int .i64
 0)) fun j=>jn (fun k l=>jn (fun m o=>g [(nth m 0),(nth m 1),(nth m 2),(nth m 3)] o) fun g=>ae (an .rem y3 (nth k 1) (.int .i64 1000000000)) fun m=>ae (an .lss
 y3 m (.int .i64 0)) fun o=>jn (fun p q=>af (aq q (dL 1 1 3 (bz 1 [(.int .i64 0)]) [(0,1,(nth p 1))] (aw q))) fun q r=>af (aq r (bT iV 3 (nth p 0) q (aw r)))
 fun q r=>ae (an .quo y3 (nth p 2) (.int .i64 1000000000)) fun s=>g [s,(nth p 3),q,(nth p 4)] r) fun g=>ax o ( ae (un .neg m) fun o=>g [(nth k 0),o,(nth k 1),
 (nth k 2),(nth k 3)] l) ( g [(nth k 0),m,(nth k 1),(nth k 2),(nth k 3)] l)) fun g=>ax j ( g [(nth h 2),(nth h 0),(nth h 1),(nth h 3)] i) ( b [(nth h 1),(nth h 2),(nth
 h 3)] i)) [a,f,.ah,d] e
theorem E67 {O:aL} (h:O 67=none):cc O funcs types 67 (cR Tn):= .cR h (aG Tryz.func67 (by kernel_rfl)) fun _ _ _ _=>by kernel_rfl
def Tt (c:CF) (n:Nat) (a b:V) (d:S):bB:=
 af (aq d (aT [(.bool false),.ah,(.bool false),.ah,(.bool false),.ah,(.bool false),.ah] 47 (aw d))) fun e f=>af (au c false true (.fn 29 [] []) [a,b,
 (.int .i64 4096)] f) fun f g=>af (au c false true (.fn 129 [] []) [f] g) fun f g=>ae (an .add y3 b (.int .i64 1)) fun b=>af (au c false true (.fn 29 [] []) [a,
 b,(.int .i64 4096)] g) fun a b=>af (au c false true (.fn 129 [] []) [a] b) fun a b=>ae (aI [(.bool false),.ah,(.bool false),.ah,(.bool false),.ah,(.bool
 false),.ah] [(0,4,f),(4,4,a)]) fun a=>af (aq b (aB 8 e a (aw b))) fun _ a=>aC d a [aD 8 a e]
theorem E82 {O:aL} (h:O 82=none):cc O funcs types 82 (bR Tt):= .bR h (aG Tryz.func82 (by kernel_rfl)) fun _ _ _ _ _=>by kernel_rfl
def F87 (c:CF) (n:Nat) (a b:V) (d:S):bB:=
 af (aq d (bM 108 a (aw d))) fun a e=>af (aq e (bM 108 b (aw e))) fun b e=>af (aq e (aT [(.bool false),.ah,(.bool false),.ah,(.bool false),.ah,
 (.bool false),.ah,(.bool false),.ah,(.bool false),.ah,(.bool false),.ah,(.bool false),.ah] 108 (aw e))) fun e f=>af (aq f (aT [(.bool false),.ah,(.bool
 false),.ah,(.bool false),.ah,(.bool false),.ah] 199 (aw f))) fun f g=>af (aq g (aT [(.bool false),.ah,(.bool false),.ah,(.bool false),.ah,(.bool false),.ah]
 199 (aw g))) fun g h=>ae (aD 4 h (.ptr 0 0)) fun i=>jn (fun j k=>ae (qn 2 4 (nth j 0) (.int .i64 0)) fun l=>ae (aD 4 k l) fun l=>ae (qn 2 4 (nth j 0) (.int .i64
 1)) fun m=>ae (aD 4 k m) fun m=>ae (aI [(.bool false),.ah,(.bool false),.ah,(.bool false),.ah,(.bool false),.ah] [(0,4,l),(4,4,m)]) fun l=>ae
 (qn 2 4 (nth j 1) (.int .i64 0)) fun m=>ae (aD 4 k m) fun m=>ae (qn 2 4 (nth j 1) (.int .i64 1)) fun o=>ae (aD 4 k o) fun o=>ae (aI [(.bool false),.ah,
 (.bool false),.ah,(.bool false),.ah,(.bool false),.ah] [(0,4,m),(4,4,o)]) fun m=>ae (aI [(.bool false),.ah,(.bool false),.ah,(.bool false),.ah,(.bool
 false),.ah,(.bool false),.ah,(.bool false),.ah,(.bool false),.ah,(.bool false),.ah] [(0,8,l),(8,8,m)]) fun l=>af (aq k (aB 16 (nth j 2) l (aw k)))
 fun _ k=>aC d k [aD 16 k (nth j 2)]) fun d=>bJ n (fun j k l=>ae (an .lss y3 (nth k 0) (.int .i64 2)) fun m=>jn (fun o p=>jn (fun q r=>ae (an .add y3 (nth
 q 0) (.int .i64 1)) fun s=>j [s,(nth q 1),(nth q 2),(nth q 3),(nth q 4),(nth q 5),(nth q 6)] r) fun j=>ae (HN 2 2 (nth o 1) (nth o 0)) fun q=>af (aq p (aT [.mc,.mc]
 203 (aw p))) fun p r=>af (aq r (aB 2 p q (aw r))) fun _ q=>ai (aj none q (bk q (nth o 0))) fun q r s=>ai (aj none r (ar (some []) r (aJ 0 p))) fun r
 t u=>ai (aj none t (ar (some (ag.aF r)) t (aM t r))) fun r t v=>ai (aj none t (ar (some []) t (aJ 0 (nth o 2)))) fun t w x=>ai (aj none w (ar (some
 (ag.aF t)) w (aD 8 w t))) fun t w y=>ai (aj none w (aH c r [t] w)) fun r t w=>ai (aj none t (ar (some []) t (aJ 0 p))) fun t z A=>ai (aj none z (ar
 (some (ag.aF t)) z (aM z t))) fun t z B=>ai (aj none z (ar (some []) z (aJ 0 (nth o 3)))) fun z D E=>ai (aj none D (ar (some (ag.aF z)) D (aD 8 D
 z))) fun z D F=>ai (aj none D (aH c t [z] D)) fun t z D=>ai (aj none z (dD (some []) (some []) z (dL 4 1 45 (bz 1 [(.bool false),.ah,(.bool false),.ah])
 [(0,4,t)] (aw z)))) fun t z G=>ai (aj none z (aH c (.fn 132 [] []) [r,t] z)) fun r t z=>ai (aj none t (bk t r)) fun r t H=>ai (aj none t (ar (some
 []) t (cV 0 r))) fun t I J=>ai (aj none I (ar (some []) I (cV 1 r))) fun _ r I=>ai (aj none r (ar (some []) r (qn 2 4 (nth o 4) q))) fun q r K=>ai (aj
 none r (dD (some (ag.aF q)) (some (ag.aF q)) r (aB 4 q t (aw r)))) fun _ q r=>bU (bE [0,0,2,0,8,30,0,64,0,256,1022,2046,4094,8190,16382,16382,
 32767,98303] [s,u,v,x,y,w,A,B,E,F,D,G,z,H,J,I,K,r]) <| ai (aj none q (bk q (nth o 0))) fun q r s=>ai (aj none r (ar (some []) r (aJ 0 p))) fun r
 t u=>ai (aj none t (ar (some (ag.aF r)) t (aM t r))) fun r t v=>ai (aj none t (ar (some []) t (aJ 8 (nth o 2)))) fun t w x=>ai (aj none w (ar (some
 (ag.aF t)) w (aD 8 w t))) fun t w y=>ai (aj none w (aH c r [t] w)) fun r t w=>ai (aj none t (ar (some []) t (aJ 0 p))) fun p t z=>ai (aj none t (ar
 (some (ag.aF p)) t (aM t p))) fun p t A=>ai (aj none t (ar (some []) t (aJ 8 (nth o 3)))) fun t B D=>ai (aj none B (ar (some (ag.aF t)) B (aD 8 B
 t))) fun t B E=>ai (aj none B (aH c p [t] B)) fun p t B=>ai (aj none t (dD (some []) (some []) t (dL 4 1 45 (bz 1 [(.bool false),.ah,(.bool false),.ah])
 [(0,4,p)] (aw t)))) fun p t F=>ai (aj none t (aH c (.fn 132 [] []) [r,p] t)) fun p r t=>ai (aj none r (bk r p)) fun p r G=>ai (aj none r (ar (some
 []) r (cV 0 p))) fun _ r H=>ai (aj none r (ar (some []) r (cV 1 p))) fun p r I=>ai (aj none r (ar (some []) r (qn 2 4 (nth o 5) q))) fun q r J=>ai (aj
 none r (dD (some (ag.aF q)) (some (ag.aF q)) r (aB 4 q p (aw r)))) fun _ p q=>bU (bE [0,0,2,0,8,30,0,64,0,256,1022,2046,4094,8190,16382,16382,
 65535,131071] [s,u,v,x,y,w,z,A,D,E,B,F,t,G,H,I,J,q]) <| j [(nth o 0),(nth o 1),(nth o 2),(nth o 3),(nth o 4),(nth o 5),(nth o 6)] p) fun j=>ax m ( j [(nth
 k 0),(nth k 1),(nth k 2),(nth k 3),(nth k 4),(nth k 5),(nth k 6)] l) ( d [(nth k 4),(nth k 5),(nth k 6)] l)) [(.int .i64 0),i,a,b,f,g,e] h
theorem E87 {O:aL} (h:O 87=none):cc O funcs types 87 (bR F87):= .bR h (aG Tryz.func87 (by kernel_rfl)) fun _ _ _ _ _=>by kernel_rfl
def F89 (c:CF) (n:Nat) (a b d e f:V) (g:S):bB:=
 af (aq g (bM 47 b (aw g))) fun b h=>af (aq h (bM 47 d (aw h))) fun d h=>af (aq h (bM 47 e (aw h))) fun e h=>af (aq h (aT [(.bool false),.ah,
 (.bool false),.ah,(.bool false),.ah,(.bool false),.ah,(.bool false),.ah,(.bool false),.ah,(.bool false),.ah,(.bool false),.ah] 108 (aw h))) fun h i=>ae
 (aN a) fun j=>ae (an .eql y3 j (.int .i64 0)) fun j=>jn (fun k l=>af (aq l (aT [(.bool false),.ah,(.bool false),.ah,(.bool false),.ah,(.bool false),.ah]
 199 (aw l))) fun l m=>af (aq m (aT [(.bool false),.ah,(.bool false),.ah,(.bool false),.ah,(.bool false),.ah] 199 (aw m))) fun m o=>ae (aD 4 o (.ptr 0
 0)) fun p=>jn (fun q r=>ae (qn 2 4 (nth q 0) (.int .i64 0)) fun s=>ae (aD 4 r s) fun s=>ae (qn 2 4 (nth q 0) (.int .i64 1)) fun t=>ae (aD 4 r t) fun t=>ae
 (aI [(.bool false),.ah,(.bool false),.ah,(.bool false),.ah,(.bool false),.ah] [(0,4,s),(4,4,t)]) fun s=>ae (qn 2 4 (nth q 1) (.int .i64 0)) fun t=>ae
 (aD 4 r t) fun t=>ae (qn 2 4 (nth q 1) (.int .i64 1)) fun u=>ae (aD 4 r u) fun u=>ae (aI [(.bool false),.ah,(.bool false),.ah,(.bool false),.ah,(.bool
 false),.ah] [(0,4,t),(4,4,u)]) fun t=>ae (aI [(.bool false),.ah,(.bool false),.ah,(.bool false),.ah,(.bool false),.ah,(.bool false),.ah,(.bool false),.ah,
 (.bool false),.ah,(.bool false),.ah] [(0,8,s),(8,8,t)]) fun s=>af (aq r (aB 16 (nth q 2) s (aw r))) fun _ r=>aC g r [aD 16 r (nth q 2)]) fun g=>bJ n
 (fun q r s=>ae (an .lss y3 (nth r 0) (.int .i64 2)) fun t=>jn (fun u v=>jn (fun w x=>ae (an .add y3 (nth w 0) (.int .i64 1)) fun y=>q [y,(nth w 1),(nth w 2),(nth
 w 3),(nth w 4),(nth w 5),(nth w 6),(nth w 7),(nth w 8),(nth w 9)] x) fun q=>ae (HN 2 2 (nth u 1) (nth u 0)) fun w=>af (aq v (aT [.mc,.mc] 203 (aw v))) fun
 v x=>af (aq x (aB 2 v w (aw x))) fun _ w=>ae (vB 136 [] [v]) fun x=>af (au c false true (.fn 135 [] []) [(nth u 2),x] w) fun w x=>af (aq x (aT [(.int .i64
 0),(.int .i64 0)] 82 (aw x))) fun x y=>af (aq y (aB 2 x w (aw y))) fun _ w=>ae (vB 139 [] [v]) fun y=>af (au c false true (.fn 138 [] []) [(nth u 2),y] w)
 fun w y=>af (aq y (aT [(.int .i64 0),(.int .i64 0)] 82 (aw y))) fun y z=>af (aq z (aB 2 y w (aw z))) fun _ w=>ai (aj none w (ar (some []) w (aJ 0 v)))
 fun w z A=>ai (aj none z (ar (some (ag.aF w)) z (aM z w))) fun w z B=>ai (aj none z (ar (some (ag.aF (nth u 3))) z (aD 8 z (nth u 3)))) fun z D E=>
 ai (aj none D (aH c w [z] D)) fun w z D=>ai (aj none z (ar (some []) z (aJ 0 v))) fun z F G=>ai (aj none F (ar (some (ag.aF z)) F (aM F z))) fun
 z F H=>ai (aj none F (ar (some (ag.aF (nth u 4))) F (aD 8 F (nth u 4)))) fun F I J=>ai (aj none I (aH c z [F] I)) fun z F I=>ai (aj none F (ar (some
 []) F (aJ 0 v))) fun F K L=>ai (aj none K (ar (some (ag.aF F)) K (aM K F))) fun F K M=>ai (aj none K (ar (some (ag.aF (nth u 5))) K (aD 8 K (nth u
 5)))) fun K N O=>ai (aj none N (aH c F [K] N)) fun F K N=>ai (aj none K (bk K (nth u 6))) fun K P Q=>ai (aj none P (aH c (.fn 140 [] []) [w,z,F,K] P))
 fun w z F=>ai (aj none z (bk z w)) fun w z K=>ai (aj none z (ar (some []) z (cV 0 w))) fun z P R=>ai (aj none P (ar (some []) P (cV 1 w))) fun w P S
 =>ai (aj none P (dD (some []) (some []) P (aT [(.bool false),.ah,(.bool false),.ah] 45 (aw P)))) fun P T U=>ai (aj none T (dD (some []) (some []) T (aT [(.bool
 false),.ah,(.bool false),.ah] 45 (aw T)))) fun T V W=>ai (aj none V (dD (some (ag.aF P)) (some (ag.aF P)) V (aB 4 P z (aw V)))) fun _ z V=>ai (aj
 none z (dD (some (ag.aF T)) (some (ag.aF T)) z (aB 4 T w (aw z)))) fun _ w z=>bU (bE [0,1,0,7,0,16,0,127,0,256,0,2047,0,8191,16383,32767,32767,
 0,0,458751,1048575] [A,B,E,D,G,H,J,I,L,M,O,N,Q,F,K,R,S,U,W,V,z]) <| ai (aj none w (bk w (nth u 0))) fun w z A=>ai (aj none z (ar (some (ag.aF
 P)) z (aD 4 z P))) fun z B D=>ai (aj none B (ar (some []) B (aJ 1 v))) fun B E F=>ai (aj none E (ar (some (ag.aF B)) E (aM E B))) fun B E G=>ai (aj
 none E (ar (some (ag.aF x)) E (aD 2 E x))) fun x E H=>ai (aj none E (aH c B [x] E)) fun x B E=>ai (aj none B (aH c (.fn 142 [] []) [x,(.int .i64 1)] B))
 fun x B I=>ai (aj none B (aH c (.fn 141 [] []) [z,x] B)) fun x z B=>ai (aj none z (ar (some []) z (qn 2 4 (nth u 7) w))) fun w z J=>ai (aj none z (dD (some
 (ag.aF w)) (some (ag.aF w)) z (aB 4 w x (aw z)))) fun _ w x=>bU (bE [0,0,0,4,0,28,60,126,255,511] [A,D,F,G,H,E,I,B,J,x]) <| ai (aj none
 w (bk w (nth u 0))) fun w x z=>ai (aj none x (ar (some (ag.aF T)) x (aD 4 x T))) fun x A B=>ai (aj none A (ar (some []) A (aJ 1 v))) fun v A D=>ai
 (aj none A (ar (some (ag.aF v)) A (aM A v))) fun v A E=>ai (aj none A (ar (some (ag.aF y)) A (aD 2 A y))) fun y A F=>ai (aj none A (aH c v [y]
 A)) fun v y A=>ai (aj none y (aH c (.fn 142 [] []) [v,(.int .i64 1)] y)) fun v y G=>ai (aj none y (aH c (.fn 141 [] []) [x,v] y)) fun v x y=>ai (aj none
 x (ar (some []) x (qn 2 4 (nth u 8) w))) fun w x H=>ai (aj none x (dD (some (ag.aF w)) (some (ag.aF w)) x (aB 4 w v (aw x)))) fun _ v w=>bU (bE [0,
 0,0,4,0,28,60,126,255,511] [z,B,D,E,F,A,G,y,H,w]) <| q [(nth u 0),(nth u 1),(nth u 2),(nth u 3),(nth u 4),(nth u 5),(nth u 6),(nth u 7),(nth u 8),(nth u 9)]
 v) fun q=>ax t ( q [(nth r 0),(nth r 1),(nth r 2),(nth r 3),(nth r 4),(nth r 5),(nth r 6),(nth r 7),(nth r 8),(nth r 9)] s) ( g [(nth r 7),(nth r 8),(nth r 9)] s)) [(.int .i64
 0),p,(nth k 0),(nth k 1),(nth k 2),(nth k 3),(nth k 4),l,m,(nth k 5)] o) fun g=>ax j ( ae (aI [(.int .i64 0),(.int .i64 0)] []) fun j=>af (aq i (dL 2 1
 82 (bz 1 [(.int .i64 0),(.int .i64 0)]) [(0,2,j)] (aw i))) fun j k=>g [j,b,d,e,f,h] k) ( g [a,b,d,e,f,h] i)
theorem E89 {O:aL} (h:O 89=none):cc O funcs types 89 (MM F89):= .MM h (aG Tryz.func89 (by kernel_rfl)) fun _ _ _ _ _ _ _ _=>by kernel_rfl
def MG (c:CF) (n:Nat) (a b:V) (d:S):bB:=
 ae (an .lss y3 b (.int .i64 0)) fun e=>jn (fun f g=>ae (CY g (nth f 1)) fun h=>ae (aN (nth f 1)) fun i=>ae (an .sub y3 h i) fun h=>ae (an .sub y3
 (nth f 0) h) fun h=>ae (an .gtr y3 h (.int .i64 0)) fun i=>jn (fun j k=>aC d k [some (nth j 0)]) fun j=>ax i ( ae (CY g (nth f 1)) fun i=>ae (gE 1 (nth
 f 1) none (some i) none) fun i=>af (aq g (GN iE 5 i h (aw g))) fun h i=>ae (aN (nth f 1)) fun k=>ae (gE 1 h none (some k) none) fun h=>j [h] i) ( j [(nth f
 1)] g)) fun f=>ax e ( none) ( f [b,a] d)
theorem Vv {O:aL} (h:O 99=none):cc O funcs types 99 (bR MG):= .bR h (aG Tryz.func99 (by kernel_rfl)) fun _ _ _ _ _=>by kernel_rfl
def Jm (c:CF) (n:Nat) (a:V) (b:S):bB:=
 af (aq b (bM 43 a (aw b))) fun a d=>ai (aj none d (ar (some (ag.aF a)) d (aD 2 d a))) fun d e f=>ai (aj none e (aH c (.fn 120 [] []) [d] e)) fun
 d e g=>ai (aj none e (dD (some []) (some []) e (dL 1 1 3 (bz 1 [(.int .i64 0)]) [(0,1,d)] (aw e)))) fun d e h=>ai (aj none e (ar (some []) e (aJ 1 a))) fun
 a e i=>ai (aj none e (ar (some (ag.aF a)) e (aM e a))) fun a e j=>ai (aj none e (dD (some ([d,a].flatMap ag.aF)) (some (ag.aF d)) e (bT iV
 3 d a (aw e)))) fun a d e=>ai (aj none d (aH c (.fn 59 [] []) [a] d)) fun a d k=>ai (aj none d (bk d a)) fun a d l=>bU (bE [0,1,3,0,8,31,63,127]
 [f,g,h,i,j,e,k,l]) <| aC b d [some a]
theorem UO {O:aL} (h:O 102=none):cc O funcs types 102 (cR Jm):= .cR h (aG Tryz.func102 (by kernel_rfl)) fun _ _ _ _=>by kernel_rfl
def Jo (c:CF) (n:Nat) (a b:V) (d:S):bB:=
 af (aq d (bM 70 a (aw d))) fun a e=>af (aq e (bM 3 b (aw e))) fun b e=>ae (vB 156 [] [a,b]) fun a=>aC d e [some a]
theorem UQ {O:aL} (h:O 104=none):cc O funcs types 104 (bR Jo):= .bR h (aG Tryz.func104 (by kernel_rfl)) fun _ _ _ _ _=>by kernel_rfl
def F6 (c:CF) (n:Nat) (a:V) (b:S):bB:=
 af (aq b (bM 45 a (aw b))) fun a d=>jn (fun e f=>ae (aJ 0 (nth e 0)) fun g=>ae (aD 2 f g) fun g=>ae (aJ 2 (nth e 0)) fun e=>ae (aD 2 f e) fun e=>
 af (au c false false (.fn 159 [] []) [g,e] f) fun e f=>af (au c false false (.fn 158 [] []) [e] f) fun e f=>aC b f [some e]) fun e=>ae (aJ 0 a) fun f=>ae
 (aD 2 d f) fun f=>af (au c false false (.fn 157 [] []) [f] d) fun d f=>ae (un .not d) fun d=>ae (ay d false (aJ 2 a)) fun g=>ae (ay d false (aD 2 f g))
 fun g=>af (fT d false (au c false false (.fn 157 [] []) [g] f) f) fun f g=>ae (ay d false (un .not f)) fun f=>ae (bn d (.bool true) f) fun d=>ae (ay
 d false (aJ 2 a)) fun f=>ae (ay d false (aJ 0 f)) fun f=>ae (ay d false (aM g f)) fun f=>ae (bn d (.bool true) f) fun d=>ae (ay d false (aJ 2 a)) fun
 f=>ae (ay d false (aD 2 g f)) fun f=>af (fT d false (au c false false (.fn 158 [] []) [f] g) g) fun f g=>ae (bn d (.bool true) f) fun d=>jn (fun f h=>e
 [(nth f 0)] h) fun e=>ax d ( aC b g [some (.bool false)]) ( ae (aJ 2 a) fun d=>ae (aJ 1 d) fun d=>ae (aM g d) fun d=>ae (aN d) fun d=>ae (an .eql
 y3 d (.int .i64 0)) fun d=>jn (fun f h=>e [(nth f 0)] h) fun e=>ax d ( aC b g [some (.bool true)]) ( e [a] g))
theorem Nt {O:aL} (h:O 106=none):cc O funcs types 106 (cR F6):= .cR h (aG Tryz.func106 (by kernel_rfl)) fun _ _ _ _=>by kernel_rfl
def Jq (c:CF) (n:Nat) (a:V) (b:S):bB:=
 af (aq b (aT [(.bool false),.ah] 43 (aw b))) fun d e=>af (au c false false (.fn 64 [] []) [a] e) fun a e=>ae (cV 0 a) fun f=>ae (cV 1 a) fun g=>ae
 (cV 2 a) fun a=>ae (an .neq (Tr.get types 58) a (.int .i64 0)) fun h=>jn (fun i j=>ae (aN (nth i 0)) fun k=>ae (an .eql y3 k (.int .i64 0)) fun k=>jn (fun
 l m=>ae (ck 1 (nth l 0) (.int .i64 0)) fun o=>ae (aM m o) fun o=>ae (an .eql y3 o (.int .i64 (-1))) fun o=>ae (gE 1 (nth l 0) (some (.int .i64 1)) none none)
 fun p=>ae (aI [(.bool false),.ah] [(0,1,o),(1,1,p)]) fun o=>af (aq m (aT [(.bool false),.ah] 43 (aw m))) fun m p=>af (aq p (aB 2 m o (aw p)))
 fun _ o=>ae (aD 2 o m) fun p=>af (au c false false (.fn 160 [] []) [p] o) fun o p=>ae (un .not o) fun o=>jn (fun q r=>ae (aD 2 r (nth q 1)) fun s=>af
 (au c true false (.fn 120 [] []) [s] r) fun r s=>ae (ck 1 (nth q 0) (.int .i64 0)) fun t=>ae (aM s t) fun t=>ae (an .neq y3 r t) fun r=>jn (fun t u=>ae
 (aD 2 u (nth t 0)) fun v=>af (aq u (aB 2 (nth t 2) v (aw u))) fun _ u=>aC b u [aD 2 u (nth t 2),some (nth t 1),some (.int .i64 0)]) fun t=>ax r ( ae (aI
 [(.bool false),.ah] []) fun r=>af (aq s (aB 2 (nth q 3) r (aw s))) fun _ r=>aC b r [aD 2 r (nth q 3),some (.int .i64 0),some (.int .i64 2)]) ( t [(nth q 1),(nth
 q 2),(nth q 3)] s)) fun q=>ax o ( ae (aI [(.bool false),.ah] []) fun o=>af (aq p (aB 2 (nth l 2) o (aw p))) fun _ o=>aC b o [aD 2 o (nth l 2),some (.int .i64
 0),some (.int .i64 2)]) ( q [(nth l 0),m,(nth l 1),(nth l 2)] p)) fun l=>ax k ( ae (aI [(.bool false),.ah] []) fun k=>af (aq j (aB 2 (nth i 2) k (aw j)))
 fun _ k=>aC b k [aD 2 k (nth i 2),some (.int .i64 0),some (.int .i64 2)]) ( l [(nth i 0),(nth i 1),(nth i 2)] j)) fun i=>ax h ( ae (aI [(.bool false),.ah] [])
 fun h=>af (aq e (aB 2 d h (aw e))) fun _ h=>aC b h [aD 2 h d,some (.int .i64 0),some a]) ( i [f,g,d] e)
theorem US {O:aL} (h:O 110=none):cc O funcs types 110 (cR Jq):= .cR h (aG Tryz.func110 (by kernel_rfl)) fun _ _ _ _=>by kernel_rfl
def Gd (c:CF) (n:Nat) (a:V) (b:S):bB:=
 af (aq b (bM 45 a (aw b))) fun a d=>ae (aJ 0 a) fun e=>ae (aD 2 d e) fun e=>af (au c false false (.fn 160 [] []) [e] d) fun d e=>ae (un .not d) fun
 d=>ae (ay d false (aJ 2 a)) fun f=>ae (ay d false (aD 2 e f)) fun f=>af (fT d false (au c false false (.fn 160 [] []) [f] e) e) fun e f=>ae (ay d false
 (un .not e)) fun e=>ae (bn d (.bool true) e) fun d=>ae (ay d false (aJ 2 a)) fun e=>ae (ay d false (aJ 0 e)) fun e=>ae (ay d false (aM f e)) fun e=>
 ae (bn d (.bool true) e) fun d=>ae (ay d false (aJ 2 a)) fun e=>ae (ay d false (aD 2 f e)) fun e=>af (fT d false (au c false false (.fn 115 [] []) [e]
 f) f) fun e f=>ae (bn d (.bool true) e) fun d=>jn (fun e g=>ae (aJ 2 (nth e 0)) fun h=>ae (aJ 1 h) fun h=>ae (aM g h) fun h=>ae (aN h) fun h=>ae
 (an .eql y3 h (.int .i64 0)) fun h=>jn (fun i j=>ae (aJ 0 (nth i 0)) fun k=>ae (aD 2 j k) fun k=>ae (aJ 2 (nth i 0)) fun i=>ae (aD 2 j i) fun i=>af
 (au c false false (.fn 112 [] []) [k,i] j) fun i j=>af (au c false false (.fn 115 [] []) [i] j) fun i j=>aC b j [some i]) fun i=>ax h ( aC b g [some (.bool true)])
 ( i [(nth e 0)] g)) fun e=>ax d ( aC b f [some (.bool false)]) ( e [a] f)
theorem Nx {O:aL} (h:O 111=none):cc O funcs types 111 (cR Gd):= .cR h (aG Tryz.func111 (by kernel_rfl)) fun _ _ _ _=>by kernel_rfl
def Gn (c:CF) (n:Nat) (a:V) (b:S):bB:=
 af (aq b (bM 43 a (aw b))) fun a d=>ae (aD 2 d a) fun a=>ae (aI [(.bool false),.ah] []) fun e=>af (au c false false (.fn 128 [] []) [a,e] d) fun a
 d=>aC b d [some a]
theorem NH {O:aL} (h:O 120=none):cc O funcs types 120 (cR Gn):= .cR h (aG Tryz.func120 (by kernel_rfl)) fun _ _ _ _=>by kernel_rfl
def N6 (c:CF) (n:Nat) (a b:V) (d:S):bB:=
 ae (aN a) fun e=>ae (aN b) fun f=>ae (an .neq y3 e f) fun e=>jn (fun f g=>ae (aN (nth f 0)) fun h=>jn (fun _ i=>aC d i [some (.bool true)]) fun i
 =>bJ n (fun j k l=>ae (an .lss y3 (nth k 0) (nth k 1)) fun m=>jn (fun o p=>jn (fun q r=>ae (an .add y3 (nth q 0) (.int .i64 1)) fun s=>j [s,(nth q 1),(nth
 q 2),(nth q 3)] r) fun j=>ae (ck 1 (nth o 2) (nth o 0)) fun q=>ae (aM p q) fun q=>ae (ck 1 (nth o 3) (nth o 0)) fun r=>ae (aM p r) fun r=>ae (an .neq
 y3 q r) fun q=>jn (fun r s=>j [(nth r 0),(nth r 1),(nth r 2),(nth r 3)] s) fun j=>ax q ( aC d p [some (.bool false)]) ( j [(nth o 0),(nth o 1),(nth o 2),(nth o 3)]
 p)) fun j=>ax m ( j [(nth k 0),(nth k 1),(nth k 2),(nth k 3)] l) ( i [] l)) [(.int .i64 0),h,(nth f 0),(nth f 1)] g) fun f=>ax e ( aC d d [some (.bool false)]) ( f
 [a,b] d)
theorem UW {O:aL} (h:O 134=none):cc O funcs types 134 (bR N6):= .bR h (aG Tryz.func134 (by kernel_rfl)) fun _ _ _ _ _=>by kernel_rfl
def N7 (c:CF) (n:Nat) (a b:V) (d:S):bB:=
 af (aq d (aT [(.int .i64 0),(.int .i64 0)] 82 (aw d))) fun e f=>ae (aN a) fun g=>ae (an .lss y3 g (.int .i64 1)) fun g=>jn (fun h i=>ae (ck 2 (nth h
 1) (.int .i64 0)) fun j=>ae (aD 2 i j) fun j=>af (aq i (aT [(.int .i64 0),(.int .i64 0)] 82 (aw i))) fun i k=>af (aq k (aB 2 i j (aw k))) fun _ j=>jn (fun
 k l=>ae (aD 2 l (nth k 0)) fun m=>af (aq l (aB 2 (nth k 1) m (aw l))) fun _ l=>aC d l [aD 2 l (nth k 1)]) fun d=>bJ n (fun k l m=>ae (aN (nth l 2))
 fun o=>ae (an .lss y3 (nth l 0) o) fun o=>jn (fun p q=>jn (fun r s=>ae (an .add y3 (nth r 0) (.int .i64 1)) fun t=>k [t,(nth r 1),(nth r 2),(nth r 3),(nth r
 4)] s) fun k=>ae (ck 2 (nth p 2) (nth p 0)) fun r=>ae (aD 2 q r) fun r=>ae (aD 2 q (nth p 3)) fun s=>af (au c true false (nth p 1) [r,s] q) fun q r=>ae
 (an .lss y3 q (.int .i64 0)) fun q=>jn (fun s t=>k [(nth s 0),(nth s 1),(nth s 2),(nth s 3),(nth s 4)] t) fun k=>ax q ( ae (ck 2 (nth p 2) (nth p 0)) fun q=>ae
 (aD 2 r q) fun q=>af (aq r (aB 2 (nth p 3) q (aw r))) fun _ q=>k [(nth p 0),(nth p 1),(nth p 2),(nth p 3),(nth p 4)] q) ( k [(nth p 0),(nth p 1),(nth p 2),(nth p
 3),(nth p 4)] r)) fun k=>ax o ( k [(nth l 0),(nth l 1),(nth l 2),(nth l 3),(nth l 4)] m) ( d [(nth l 3),(nth l 4)] m)) [(.int .i64 1),(nth h 0),(nth h 1),i,(nth h 2)]
 j) fun d=>ax g ( none) ( d [b,a,e] f)
theorem UX {O:aL} (h:O 135=none):cc O funcs types 135 (bR N7):= .bR h (aG Tryz.func135 (by kernel_rfl)) fun _ _ _ _ _=>by kernel_rfl
def Gr (c:CF) (n:Nat) (a b:V) (d:S):bB:=
 af (au c false false (.fn 173 [] []) [a] d) fun e f=>af (au c false false (.fn 173 [] []) [b] f) fun f g=>jn (fun h i=>jn (fun j k=>ae (an .lss y3 (nth j 0)
 (nth j 1)) fun l=>jn (fun m o=>ae (an .gtr y3 (nth m 0) (nth m 1)) fun m=>jn (fun _ p=>aC d p [some (.int .i64 0)]) fun p=>ax m ( aC d o [some (.int .i64 1)])
 ( p [] o)) fun m=>ax l ( aC d k [some (.int .i64 (-1))]) ( m [(nth j 0),(nth j 1)] k)) fun j=>ax (nth h 0) ( aC d i [some (.int .i64 1)]) ( j [(nth h 1),(nth h 2)] i))
 fun h=>ax e ( jn (fun _ e=>aC d e [some (.int .i64 (-1))]) fun e=>ax f ( aC d g [some (.int .i64 0)]) ( e [] g)) ( h [f,a,b] g)
theorem NK {O:aL} (h:O 137=none):cc O funcs types 137 (bR Gr):= .bR h (aG Tryz.func137 (by kernel_rfl)) fun _ _ _ _ _=>by kernel_rfl
def Od (c:CF) (n:Nat) (a b:V) (d:S):bB:=
 af (aq d (aT [(.bool false),.ah,(.bool false),.ah] 45 (aw d))) fun e f=>af (au c false true (.fn 182 [] []) [a] f) fun a f=>af (au c false true (.fn
 182 [] []) [b] f) fun b f=>af (au c false true (.fn 180 [] []) [a,b] f) fun a b=>af (aq b (aB 4 e a (aw b))) fun _ a=>aC d a [aD 4 a e]
theorem U3 {O:aL} (h:O 142=none):cc O funcs types 142 (bR Od):= .bR h (aG Tryz.func142 (by kernel_rfl)) fun _ _ _ _ _=>by kernel_rfl
def Of (c:CF) (n:Nat) (a b:V) (d:S):bB:=
 af (aq d (bM 47 a (aw d))) fun a e=>af (aq e (bM 47 b (aw e))) fun b e=>af (aq e (aT [(.bool false),.ah,(.bool false),.ah,(.bool false),.ah,(.bool
 false),.ah] 47 (aw e))) fun e f=>ai (aj none f (ar (some []) f (aJ 0 a))) fun f g h=>ai (aj none g (ar (some (ag.aF f)) g (aD 4 g f))) fun f g i=>ai
 (aj none g (ar (some []) g (aJ 0 b))) fun g j k=>ai (aj none j (ar (some (ag.aF g)) j (aD 4 j g))) fun g j l=>ai (aj none j (aH c (.fn 141 [] []) [f,
 g] j)) fun f g j=>ai (aj none g (ar (some []) g (aJ 4 a))) fun a g m=>ai (aj none g (ar (some (ag.aF a)) g (aD 4 g a))) fun a g o=>ai (aj none g (ar
 (some []) g (aJ 4 b))) fun b g p=>ai (aj none g (ar (some (ag.aF b)) g (aD 4 g b))) fun b g q=>ai (aj none g (aH c (.fn 141 [] []) [a,b] g)) fun a b g=>
 ai (aj none b (ar (some []) b (aI [(.bool false),.ah,(.bool false),.ah,(.bool false),.ah,(.bool false),.ah] [(0,4,f),(4,4,a)]))) fun a b f=>ai (aj
 none b (dD (some (ag.aF e)) (some (ag.aF e)) b (aB 8 e a (aw b)))) fun _ a b=>bU (bE [0,1,0,4,15,0,32,0,128,511,1023,2047] [h,i,k,l,j,m,o,p,
 q,g,f,b]) <| aC d a [aD 8 a e]
theorem U5 {O:aL} (h:O 144=none):cc O funcs types 144 (bR Of):= .bR h (aG Tryz.func144 (by kernel_rfl)) fun _ _ _ _ _=>by kernel_rfl
def Og (c:CF) (n:Nat) (a b:V) (d:S):bB:=
 af (au c false false (.fn 184 [] []) [a,b] d) fun a b=>ae (an .geq y3 a (.int .i64 0)) fun a=>aC d b [some a]
theorem U6 {O:aL} (h:O 145=none):cc O funcs types 145 (bR Og):= .bR h (aG Tryz.func145 (by kernel_rfl)) fun _ _ _ _ _=>by kernel_rfl
def Oi (c:CF) (n:Nat) (a b:V) (d:S):bB:=
 af (aq d (bM 45 a (aw d))) fun a e=>af (aq e (bM 45 b (aw e))) fun b e=>ae (aD 4 e a) fun f=>af (au c true false (.fn 177 [] []) [f] e) fun e f=>ae
 (aD 4 f b) fun g=>af (au c true false (.fn 177 [] []) [g] f) fun f g=>ae (an .neq y3 e f) fun h=>ae (ay h false (some e)) fun i=>ae (ay h false (an .eql
 y3 i (.int .i64 0))) fun i=>ae (bn h (.bool true) i) fun h=>jn (fun i j=>ae (aJ 0 (nth i 1)) fun k=>ae (aD 2 j k) fun k=>ae (aD 4 j (nth i 0)) fun l=>af
 (au c true false (.fn 179 [] []) [l] j) fun j l=>af (au c true false (.fn 181 [] []) [k,j] l) fun j k=>ae (aJ 0 (nth i 0)) fun l=>ae (aD 2 k l) fun l=>ae
 (aD 4 k (nth i 1)) fun i=>af (au c true false (.fn 179 [] []) [i] k) fun i k=>af (au c true false (.fn 181 [] []) [l,i] k) fun i k=>af (au c true false (.fn
 185 [] []) [j,i] k) fun i j=>aC d j [some i]) fun i=>ax h ( af (au c false false (.fn 182 [] []) [e] g) fun e h=>af (au c false false (.fn 182 [] []) [f] h)
 fun f h=>af (au c false false (.fn 185 [] []) [e,f] h) fun e f=>aC d f [some e]) ( i [b,a] g)
theorem U8 {O:aL} (h:O 147=none):cc O funcs types 147 (bR Oi):= .bR h (aG Tryz.func147 (by kernel_rfl)) fun _ _ _ _ _=>by kernel_rfl
def Jr (c:CF) (n:Nat) (a:V) (b:S):bB:=
 ae (aN a) fun d=>ae (an .eql y3 d (.int .i64 0)) fun d=>jn (fun e f=>ae (ck 1 (nth e 0) (.int .i64 0)) fun g=>ae (aM f g) fun g=>ae (an .lss (Tr.get
 types 5) g (.int .u8 128)) fun g=>jn (fun h i=>ae (ck 1 (nth h 0) (.int .i64 0)) fun j=>ae (aM i j) fun j=>ae (an .xor (Tr.get types 5) j (nth h 1)) fun j=>ae
 (mK .i64 j) fun j=>ae (an .sub y3 j (.int .i64 128)) fun j=>jn (fun k l=>ae (an .add y3 (nth k 2) (.int .i64 1)) fun m=>ae (gE 1 (nth k 0) (some (.int .i64 1))
 (some m) none) fun m=>ae (aN m) fun o=>jn (fun p q=>ae (an .shr (Tr.get types 226) (nth p 1) (.int .u64 63)) fun r=>ae (an .gtr (Tr.get types 226) r (.int .u64
 0)) fun r=>jn (fun s t=>ae (an .gtr (Tr.get types 5) (nth s 0) (.int .u8 0)) fun u=>jn (fun v w=>ae (mK .i64 (nth v 0)) fun x=>ae (an .add y3 (nth v 1) (.int .i64
 1)) fun v=>aC b w [some x,some v,some (.int .i64 0)]) fun v=>ax u ( ae (un .xor (nth s 1)) fun u=>v [u,(nth s 2)] t) ( v [(nth s 1),(nth s 2)] t)) fun s=>ax r
 ( aC b q [some (.int .i64 0),some (.int .i64 0),some (.int .i64 2)]) ( s [(nth p 0),(nth p 1),(nth p 2)] q)) fun p=>bJ n (fun q r s=>ae (an .lss y3 (nth r 0) (nth
 r 1)) fun t=>jn (fun u v=>jn (fun w x=>ae (an .add y3 (nth w 0) (.int .i64 1)) fun y=>q [y,(nth w 1),(nth w 2),(nth w 3),(nth w 4),(nth w 5)] x) fun q=>ae (ck
 1 (nth u 3) (nth u 1)) fun w=>ae (aM v w) fun w=>ae (an .shl (Tr.get types 226) (nth u 0) (.int .u64 8)) fun x=>ae (an .xor (Tr.get types 5) w (nth u 4)) fun w=>
 ae (mK .u64 w) fun w=>ae (an .or (Tr.get types 226) x w) fun w=>q [(nth u 1),(nth u 2),(nth u 3),(nth u 4),w,(nth u 5)] v) fun q=>ax t ( q [(nth r 4),(nth r
 0),(nth r 1),(nth r 2),(nth r 3),(nth r 5)] s) ( p [(nth r 3),(nth r 4),(nth r 5)] s)) [(.int .i64 0),o,m,(nth k 1),(.int .u64 0),(nth k 2)] l) fun k=>ae (an .gtr
 y3 j (.int .i64 8)) fun l=>jn (fun m o=>k [(nth m 0),(nth m 1),(nth m 2)] o) fun k=>ax l ( aC b i [some (.int .i64 0),some (.int .i64 0),some (.int .i64 2)]) ( ae
 (aN (nth h 0)) fun l=>ae (an .leq y3 l j) fun l=>jn (fun m o=>k [(nth m 0),(nth m 1),(nth m 2)] o) fun k=>ax l ( aC b i [some (.int .i64 0),some (.int .i64 0),
 some (.int .i64 3)]) ( ae (an .gtr y3 j (.int .i64 0)) fun l=>ae (ay l true (some (nth h 0))) fun m=>ae (ay l true (ck 1 m (.int .i64 1))) fun m=>ae (ay l
 true (aM i m)) fun m=>ae (ay l true (some (nth h 1))) fun o=>ae (ay l true (an .xor (Tr.get types 5) m o)) fun m=>ae (ay l true (an .eql (Tr.get types 5) m
 (.int .u8 0))) fun m=>ae (bn l m (.bool false)) fun l=>jn (fun m o=>k [(nth m 0),(nth m 1),(nth m 2)] o) fun k=>ax l ( aC b i [some (.int .i64 0),some (.int .i64
 0),some (.int .i64 2)]) ( k [(nth h 0),(nth h 1),j] i)))) fun h=>ax g ( h [(nth e 0),(.int .u8 255)] f) ( h [(nth e 0),(.int .u8 0)] f)) fun e=>ax d ( aC b b [some
 (.int .i64 0),some (.int .i64 0),some (.int .i64 3)]) ( e [a] b)
theorem U9 {O:aL} (h:O 155=none):cc O funcs types 155 (cR Jr):= .cR h (aG Tryz.func155 (by kernel_rfl)) fun _ _ _ _=>by kernel_rfl
def Js (c:CF) (n:Nat) (a b:V) (d:S):bB:=
 ae (aM d a) fun a=>ae (aM d b) fun e=>ae (gE 1 a (some e) none none) fun a=>af (au c false false (.fn 155 [] []) [a] d) fun a e=>ae (cV 0 a) fun f=>
 ae (cV 1 a) fun g=>ae (cV 2 a) fun a=>ae (aM e b) fun h=>ae (an .add y3 h g) fun g=>af (aq e (aB 1 b g (aw e))) fun _ e=>ae (aM e b) fun b=>
 aC d e [some f,some b,some a]
theorem Va {O:aL} (h:O 156=none):cc O funcs types 156 (bR Js):= .bR h (aG Tryz.func156 (by kernel_rfl)) fun _ _ _ _ _=>by kernel_rfl
def Gv (c:CF) (n:Nat) (a b:V) (d:S):bB:=
 af (aq d (bM 43 a (aw d))) fun a e=>af (aq e (bM 43 b (aw e))) fun b e=>af (aq e (aT [(.bool false),.ah] 43 (aw e))) fun e f=>ai (aj none f (ar
 (some []) f (aJ 1 a))) fun a f g=>ai (aj none f (ar (some (ag.aF a)) f (aM f a))) fun a f h=>ai (aj none f (aH c (.fn 192 [] []) [(.bool false),a] f)) fun
 a f i=>ai (aj none f (ar (some []) f (aJ 1 b))) fun b f j=>ai (aj none f (ar (some (ag.aF b)) f (aM f b))) fun b f k=>ai (aj none f (aH c (.fn
 192 [] []) [(.bool false),b] f)) fun b f l=>ai (aj none f (dD (some []) (some []) f (aT [(.bool false),.ah] 43 (aw f)))) fun f m o=>ai (aj none m (dD (some [])
 (some []) m (aT [(.bool false),.ah] 43 (aw m)))) fun m p q=>ai (aj none p (dD (some (ag.aF f)) (some (ag.aF f)) p (aB 2 f a (aw p)))) fun _ a p=>ai
 (aj none a (dD (some (ag.aF m)) (some (ag.aF m)) a (aB 2 m b (aw a)))) fun _ a b=>bU (bE [0,1,3,0,8,31,0,0,255,511] [g,h,i,j,k,l,o,q,p,b])
 <| jn (fun b g=>ae (aD 2 g (nth b 0)) fun h=>af (aq g (aB 2 (nth b 1) h (aw g))) fun _ g=>aC d g [aD 2 g (nth b 1)]) fun b=>bJ n (fun g h i=>ae (aJ 1
 (nth h 0)) fun j=>ae (aM i j) fun j=>ae (aN j) fun j=>ae (an .gtr y3 j (.int .i64 0)) fun j=>jn (fun k l=>jn (fun o p=>g [(nth o 0),(nth o 1),(nth o 2)]
 p) fun g=>ae (aJ 1 (nth k 1)) fun o=>ae (aM l o) fun o=>af (au c false false (.fn 193 [] []) [o] l) fun l o=>ae (cV 0 l) fun p=>ae (cV 1 l) fun l=>
 ae (aJ 1 (nth k 0)) fun q=>ae (aM o q) fun q=>af (au c false false (.fn 193 [] []) [q] o) fun o q=>ae (cV 0 o) fun r=>ae (cV 1 o) fun o=>ae (ay
 l true (some o)) fun o=>ae (bn l o (.bool false)) fun l=>jn (fun o s=>ae (aJ 1 (nth o 1)) fun t=>ae (aM s t) fun t=>ae (aJ 1 (nth o 0)) fun u=>ae (aM
 s u) fun u=>af (au c false true (.fn 195 [] []) [t,u] s) fun s t=>ae (cV 0 s) fun u=>ae (cV 1 s) fun s=>af (aq t (aT [(.bool false),.ah] 43 (aw t)))
 fun t v=>af (aq v (aT [(.bool false),.ah] 43 (aw v))) fun v w=>af (aq w (aB 2 t u (aw w))) fun _ t=>af (aq t (aB 2 v s (aw t))) fun _ s=>ai (aj
 none s (ar (some (ag.aF (nth o 0))) s (aD 2 s (nth o 0)))) fun s t u=>ai (aj none t (ar (some (ag.aF v)) t (aD 2 t v))) fun t v w=>ai (aj none v (dD
 (some (ag.aF (nth o 1))) (some (ag.aF (nth o 1))) v (aB 2 (nth o 1) s (aw v)))) fun _ s v=>ai (aj none s (dD (some (ag.aF (nth o 0))) (some (ag.aF
 (nth o 0))) s (aB 2 (nth o 0) t (aw s)))) fun _ s t=>bU (bE [0,0,1,7] [u,w,v,t]) <| g [(nth o 0),(nth o 1),(nth o 2)] s) fun g=>ax l ( jn (fun l o=>ae (mK .u64
 (nth l 0)) fun s=>af (au c false true (.fn 194 [] []) [(.bool false),s] o) fun o s=>af (aq s (aB 2 (nth l 1) o (aw s))) fun _ o=>aC d o [aD 2 o (nth l 1)]) fun
 d=>bJ n (fun l o s=>ae (an .gtr y3 (nth o 0) (.int .i64 0)) fun t=>jn (fun u v=>jn (fun w x=>l [(nth w 0),(nth w 1),(nth w 2)] x) fun l=>ae (an .rem y3 (nth
 u 0) (nth u 1)) fun w=>l [w,(nth u 1),(nth u 2)] v) fun l=>ax t ( l [(nth o 1),(nth o 0),(nth o 2)] s) ( d [(nth o 1),(nth o 2)] s)) [r,p,(nth k 2)] q) ( g [(nth k 0),
 (nth k 1),(nth k 2)] q)) fun d=>ax j ( d [(nth h 0),(nth h 1),(nth h 2)] i) ( b [(nth h 1),(nth h 2)] i)) [m,f,e] a
theorem NO {O:aL} (h:O 159=none):cc O funcs types 159 (bR Gv):= .bR h (aG Tryz.func159 (by kernel_rfl)) fun _ _ _ _ _=>by kernel_rfl
def Gy (c:CF) (n:Nat) (a b:V) (d:S):bB:=
 ae (aN a) fun e=>ae (an .leq y3 e (.int .i64 2)) fun e=>ae (ay e true (some b)) fun f=>ae (ay e true (aN f)) fun f=>ae (ay e true (an .leq y3 f
 (.int .i64 2))) fun f=>ae (bn e f (.bool false)) fun e=>jn (fun f g=>ae (aN (nth f 0)) fun h=>af (aq g (bQ types 22 h h (aw g))) fun g h=>ae (aN
 (nth f 0)) fun i=>ae (an .sub y3 i (.int .i64 1)) fun i=>jn (fun j k=>aC d k [some (nth j 0),some (nth j 1)]) fun j=>bJ n (fun k l m=>ae (an .geq y3 (nth l
 0) (.int .i64 0)) fun o=>jn (fun p q=>jn (fun r s=>ae (an .sub y3 (nth r 0) (.int .i64 1)) fun t=>k [t,(nth r 1),(nth r 2),(nth r 3),(nth r 4)] s) fun k=>ae (ck
 1 (nth p 2) (nth p 1)) fun r=>ae (aM q r) fun r=>af (aq q (dL 1 1 3 (bz 1 [(.int .i64 0)]) [(0,1,r)] (aw q))) fun q r=>af (aq r (bT iV 3 q (nth p 0) (aw
 r))) fun q r=>af (au c false true (.fn 116 [] []) [(.bool false),q] r) fun q r=>af (aq r (aT [(.bool false),.ah] 43 (aw r))) fun r s=>af (aq s (aB 2 r
 q (aw s))) fun _ q=>ae (aJ 1 r) fun r=>ae (aM q r) fun r=>af (au c false false (.fn 118 [] []) [r,(nth p 3)] q) fun q s=>ae (an .lss y3 q (.int .i64 0))
 fun q=>jn (fun t u=>jn (fun v w=>af (au c false true (.fn 196 [] []) [(nth v 4),(nth v 1)] w) fun w x=>af (au c false true (.fn 119 [] []) [(nth v 0),w] x) fun
 w x=>af (au c false true (.fn 116 [] []) [(.bool false),w] x) fun w x=>af (aq x (aT [(.bool false),.ah] 43 (aw x))) fun x y=>af (aq y (aB 2 x w (aw y)))
 fun _ w=>ae (ck 1 (nth v 5) (nth v 2)) fun y=>af (aq w (aB 1 y (nth v 1) (aw w))) fun _ w=>ae (aJ 1 x) fun x=>ae (aM w x) fun x=>k [(nth v 2),(nth v 3),
 (nth v 4),(nth v 5),x] w) fun k=>bJ n (fun v w x=>ae (an .lss y3 (nth w 2) (nth w 0)) fun y=>jn (fun z A=>jn (fun B D=>v [(nth B 0),(nth B 1),(nth B 2),(nth B
 3),(nth B 4),(nth B 5),(nth B 6)] D) fun v=>ae (an .add y3 (nth z 2) (nth z 0)) fun B=>ae (an .add y3 B (.int .i64 1)) fun B=>ae (an .quo y3 B (.int .i64 2))
 fun B=>af (au c false false (.fn 196 [] []) [(nth z 5),B] A) fun A D=>af (au c false false (.fn 118 [] []) [A,(nth z 1)] D) fun A D=>ae (an .leq y3 A (.int .i64
 0)) fun A=>jn (fun E F=>v [(nth E 0),(nth E 1),(nth E 2),(nth E 3),(nth E 4),(nth E 5),(nth E 6)] F) fun v=>ax A ( v [(nth z 0),(nth z 1),B,(nth z 3),(nth z 4),(nth
 z 5),(nth z 6)] D) ( ae (an .sub y3 B (.int .i64 1)) fun A=>v [A,(nth z 1),(nth z 2),(nth z 3),(nth z 4),(nth z 5),(nth z 6)] D)) fun v=>ax y ( v [(nth w 0),(nth
 w 1),(nth w 2),(nth w 3),(nth w 4),(nth w 5),(nth w 6)] x) ( k [(nth w 1),(nth w 2),(nth w 3),(nth w 4),(nth w 5),(nth w 6)] x)) [(nth t 0),(nth t 1),(nth t 2),(nth t 3),
 (nth t 4),(nth t 5),(nth t 6)] u) fun k=>ax q ( k [(.int .i64 0),r,(.int .i64 0),(nth p 1),(nth p 2),(nth p 3),(nth p 4)] s) ( k [(.int .i64 999999999),r,(.int .i64 0),
 (nth p 1),(nth p 2),(nth p 3),(nth p 4)] s)) fun k=>ax o ( k [(nth l 4),(nth l 0),(nth l 1),(nth l 2),(nth l 3)] m) ( j [(nth l 3),(nth l 4)] m)) [i,(nth f 0),(nth f
 1),g,.ah] h) fun f=>ax e ( af (au c false true (.fn 161 [] []) [a] d) fun e g=>af (au c false true (.fn 161 [] []) [b] g) fun g h=>ae (an .quo y3 e g)
 fun e=>af (au c false true (.fn 67 [] []) [e] h) fun e g=>af (aq g (aT [(.bool false),.ah] 43 (aw g))) fun g h=>af (aq h (aB 2 g e (aw h))) fun _ e=>
 af (au c false true (.fn 161 [] []) [a] e) fun e h=>af (au c false true (.fn 161 [] []) [b] h) fun h i=>ae (an .rem y3 e h) fun e=>af (au c false true (.fn
 67 [] []) [e] i) fun e h=>af (aq h (aT [(.bool false),.ah] 43 (aw h))) fun h i=>af (aq i (aB 2 h e (aw i))) fun _ e=>ae (aJ 1 g) fun g=>ae (aM e g)
 fun g=>ae (aJ 1 h) fun h=>ae (aM e h) fun h=>aC d e [some g,some h]) ( f [a,b] d)
theorem NR {O:aL} (h:O 162=none):cc O funcs types 162 (bR Gy):= .bR h (aG Tryz.func162 (by kernel_rfl)) fun _ _ _ _ _=>by kernel_rfl
def Gz (c:CF) (n:Nat) (a b:V) (d:S):bB:=
 ae (aN a) fun e=>ae (an .lss y3 b e) fun e=>jn (fun _ f=>aC d f [some (.int .i64 0)]) fun f=>ax e ( ae (ck 1 a b) fun a=>ae (aM d a) fun a=>aC
 d d [some a]) ( f [] d)
theorem NS {O:aL} (h:O 163=none):cc O funcs types 163 (bR Gz):= .bR h (aG Tryz.func163 (by kernel_rfl)) fun _ _ _ _ _=>by kernel_rfl
def Oj (c:CF) (n:Nat) (a:V) (b:S):bB:=
 af (aq b (bM 45 a (aw b))) fun a d=>af (aq d (aT [(.bool false),.ah,(.bool false),.ah] 45 (aw d))) fun d e=>ai (aj none e (ar (some []) e (aJ 0
 a))) fun e f g=>ai (aj none f (ar (some (ag.aF e)) f (aD 2 f e))) fun e f h=>ai (aj none f (aH c (.fn 197 [] []) [e] f)) fun e f i=>ai (aj none f (ar
 (some []) f (aJ 2 a))) fun a f j=>ai (aj none f (ar (some (ag.aF a)) f (aD 2 f a))) fun a f k=>ai (aj none f (ar (some []) f (aI [(.bool false),.ah,
 (.bool false),.ah] [(0,2,e),(2,2,a)]))) fun a e f=>ai (aj none e (dD (some (ag.aF d)) (some (ag.aF d)) e (aB 4 d a (aw e)))) fun _ a e=>bU (bE
 [0,1,3,0,8,31,63] [g,h,i,j,k,f,e]) <| aC b a [aD 4 a d]
theorem Vb {O:aL} (h:O 175=none):cc O funcs types 175 (cR Oj):= .cR h (aG Tryz.func175 (by kernel_rfl)) fun _ _ _ _=>by kernel_rfl
def Ok (c:CF) (n:Nat) (a b:V) (d:S):bB:=
 af (aq d (bM 45 a (aw d))) fun a e=>af (aq e (bM 45 b (aw e))) fun b e=>af (aq e (aT [(.bool false),.ah,(.bool false),.ah] 45 (aw e))) fun e f=>
 ae (aJ 0 b) fun g=>ae (aJ 1 g) fun g=>ae (aM f g) fun g=>ae (aN g) fun g=>ae (an .eql y3 g (.int .i64 0)) fun g=>jn (fun h i=>ai (aj none i (ar
 (some (ag.aF (nth h 0))) i (aD 4 i (nth h 0)))) fun i j k=>ai (aj none j (ar (some (ag.aF (nth h 1))) j (aD 4 j (nth h 1)))) fun j l m=>ai (aj none l
 (aH c (.fn 179 [] []) [j] l)) fun j l o=>ai (aj none l (ar (some []) l (aJ 0 (nth h 1)))) fun l p q=>ai (aj none p (ar (some (ag.aF l)) p (aD 2 p l)))
 fun l p r=>ai (aj none p (aH c (.fn 198 [] []) [j,l] p)) fun j l p=>ai (aj none l (aH c (.fn 183 [] []) [i,j] l)) fun i j l=>ai (aj none j (dD (some (ag.aF
 (nth h 2))) (some (ag.aF (nth h 2))) j (aB 4 (nth h 2) i (aw j)))) fun _ i j=>bU (bE [0,0,2,0,8,30,63,127] [k,m,o,q,r,p,l,j]) <| aC d i [aD 4 i (nth
 h 2)]) fun h=>ax g ( ae (aI [(.bool false),.ah,(.bool false),.ah] []) fun g=>af (aq f (aB 4 e g (aw f))) fun _ g=>aC d g [aD 4 g e]) ( h [a,b,e] f)
theorem Vc {O:aL} (h:O 176=none):cc O funcs types 176 (bR Ok):= .bR h (aG Tryz.func176 (by kernel_rfl)) fun _ _ _ _ _=>by kernel_rfl
def Om (c:CF) (n:Nat) (a b:V) (d:S):bB:=
 af (aq d (bM 43 a (aw d))) fun a e=>af (aq e (bM 43 b (aw e))) fun b e=>af (aq e (aT [(.bool false),.ah] 43 (aw e))) fun e f=>jn (fun g h=>ai
 (aj none h (ar (some []) h (aJ 0 (nth g 0)))) fun h i j=>ai (aj none i (ar (some (ag.aF h)) i (aM i h))) fun h i k=>ai (aj none i (ar (some []) i (aJ
 1 (nth g 0)))) fun i l m=>ai (aj none l (ar (some (ag.aF i)) l (aM l i))) fun i l o=>ai (aj none l (ar (some []) l (aJ 1 (nth g 1)))) fun l p q=>ai
 (aj none p (ar (some (ag.aF l)) p (aM p l))) fun l p r=>ai (aj none p (aH c (.fn 201 [] []) [i,l] p)) fun i l p=>ai (aj none l (aH c (.fn 192 [] [])
 [h,i] l)) fun h i l=>ai (aj none i (dD (some (ag.aF (nth g 2))) (some (ag.aF (nth g 2))) i (aB 2 (nth g 2) h (aw i)))) fun _ h i=>bU (bE [0,1,0,4,
 0,16,60,127,255] [j,k,m,o,q,r,p,l,i]) <| aC d h [aD 2 h (nth g 2)]) fun g=>ae (aJ 0 a) fun h=>ae (aM f h) fun h=>ae (aJ 0 b) fun i=>ae (aM f i)
 fun i=>ae (an .eql (Tr.get types 4) h i) fun h=>jn (fun i j=>g [(nth i 0),(nth i 1),(nth i 2)] j) fun g=>ax h ( ai (aj none f (ar (some []) f (aJ 0 a))) fun
 h i j=>ai (aj none i (ar (some (ag.aF h)) i (aM i h))) fun h i k=>ai (aj none i (ar (some []) i (aJ 1 a))) fun i l m=>ai (aj none l (ar (some (ag.aF
 i)) l (aM l i))) fun i l o=>ai (aj none l (ar (some []) l (aJ 1 b))) fun l p q=>ai (aj none p (ar (some (ag.aF l)) p (aM p l))) fun l p r=>ai (aj
 none p (aH c (.fn 199 [] []) [i,l] p)) fun i l p=>ai (aj none l (aH c (.fn 192 [] []) [h,i] l)) fun h i l=>ai (aj none i (dD (some (ag.aF e)) (some (ag.aF
 e)) i (aB 2 e h (aw i)))) fun _ h i=>bU (bE [0,1,0,4,0,16,60,127,255] [j,k,m,o,q,r,p,l,i]) <| aC d h [aD 2 h e]) ( ae (aJ 1 a) fun h=>ae (aM
 f h) fun h=>ae (aJ 1 b) fun i=>ae (aM f i) fun i=>af (au c false false (.fn 200 [] []) [h,i] f) fun f h=>ae (an .lss y3 f (.int .i64 0)) fun f=>jn (fun
 i j=>g [(nth i 0),(nth i 1),(nth i 2)] j) fun g=>ax f ( ai (aj none h (ar (some []) h (aJ 0 b))) fun f i j=>ai (aj none i (ar (some (ag.aF f)) i (aM
 i f))) fun f i k=>ai (aj none i (ar (some []) i (aJ 1 b))) fun i l m=>ai (aj none l (ar (some (ag.aF i)) l (aM l i))) fun i l o=>ai (aj none l (ar
 (some []) l (aJ 1 a))) fun l p q=>ai (aj none p (ar (some (ag.aF l)) p (aM p l))) fun l p r=>ai (aj none p (aH c (.fn 201 [] []) [i,l] p)) fun i l p=>
 ai (aj none l (aH c (.fn 192 [] []) [f,i] l)) fun f i l=>ai (aj none i (dD (some (ag.aF e)) (some (ag.aF e)) i (aB 2 e f (aw i)))) fun _ f i=>bU
 (bE [0,1,0,4,0,16,60,127,255] [j,k,m,o,q,r,p,l,i]) <| aC d f [aD 2 f e]) ( g [a,b,e] h))
theorem Ve {O:aL} (h:O 178=none):cc O funcs types 178 (bR Om):= .bR h (aG Tryz.func178 (by kernel_rfl)) fun _ _ _ _ _=>by kernel_rfl
def On (c:CF) (n:Nat) (a:V) (b:S):bB:=
 af (aq b (bM 45 a (aw b))) fun a d=>af (aq d (aT [(.bool false),.ah] 43 (aw d))) fun d e=>ae (aJ 2 a) fun f=>ae (aJ 1 f) fun f=>ae (aM e f) fun
 f=>ae (aN f) fun f=>ae (an .eql y3 f (.int .i64 0)) fun f=>jn (fun g h=>ae (aJ 2 (nth g 0)) fun i=>ae (aD 2 h i) fun i=>af (aq h (aB 2 (nth g 1)
 i (aw h))) fun _ h=>aC b h [aD 2 h (nth g 1)]) fun g=>ax f ( af (au c false true (.fn 202 [] []) [] e) fun f h=>af (aq h (aB 2 d f (aw h))) fun _ f=>aC
 b f [aD 2 f d]) ( g [a,d] e)
theorem Vf {O:aL} (h:O 179=none):cc O funcs types 179 (cR On):= .cR h (aG Tryz.func179 (by kernel_rfl)) fun _ _ _ _=>by kernel_rfl
def Oo (c:CF) (n:Nat) (a b:V) (d:S):bB:=
 af (aq d (bM 43 a (aw d))) fun a e=>af (aq e (bM 43 b (aw e))) fun b e=>af (aq e (aT [(.bool false),.ah,(.bool false),.ah] 45 (aw e))) fun e f=>
 ae (aJ 1 b) fun g=>ae (aM f g) fun g=>ae (aN g) fun g=>ae (an .eql y3 g (.int .i64 0)) fun g=>ae (ay g false (aJ 1 a)) fun h=>ae (ay g false (aM
 f h)) fun h=>ae (ay g false (aN h)) fun h=>ae (ay g false (an .eql y3 h (.int .i64 0))) fun h=>ae (bn g (.bool true) h) fun g=>jn (fun h i=>ae (aD
 2 i (nth h 0)) fun j=>ae (aD 2 i (nth h 1)) fun k=>af (au c false true (.fn 159 [] []) [j,k] i) fun i j=>af (aq j (aT [(.bool false),.ah] 43 (aw j))) fun
 j k=>af (aq k (aB 2 j i (aw k))) fun _ i=>ae (aD 2 i j) fun k=>af (au c false false (.fn 158 [] []) [k] i) fun i k=>ae (un .not i) fun i=>jn (fun l m
 =>ae (aD 2 m (nth l 0)) fun o=>ae (aD 2 m (nth l 1)) fun p=>af (au c false true (.fn 198 [] []) [o,p] m) fun m o=>af (aq o (aB 4 (nth l 2) m (aw o))) fun
 _ m=>aC d m [aD 4 m (nth l 2)]) fun l=>ax i ( ae (aD 2 k (nth h 0)) fun i=>ae (aD 2 k j) fun m=>af (au c false true (.fn 203 [] []) [i,m] k) fun i m=>
 ae (cV 0 i) fun o=>ae (cV 1 i) fun _=>af (aq m (aB 2 (nth h 0) o (aw m))) fun _ i=>ae (aD 2 i (nth h 1)) fun m=>ae (aD 2 i j) fun j=>af (au c
 false true (.fn 203 [] []) [m,j] i) fun i j=>ae (cV 0 i) fun m=>ae (cV 1 i) fun _=>af (aq j (aB 2 (nth h 1) m (aw j))) fun _ i=>l [(nth h 0),(nth h 1),(nth
 h 2)] i) ( l [(nth h 0),(nth h 1),(nth h 2)] k)) fun h=>ax g ( ae (aI [(.bool false),.ah,(.bool false),.ah] []) fun g=>af (aq f (aB 4 e g (aw f))) fun
 _ g=>aC d g [aD 4 g e]) ( h [a,b,e] f)
theorem Vg {O:aL} (h:O 180=none):cc O funcs types 180 (bR Oo):= .bR h (aG Tryz.func180 (by kernel_rfl)) fun _ _ _ _ _=>by kernel_rfl
def Ot (c:CF) (n:Nat) (a:V) (b:S):bB:=
 af (aq b (aT [(.bool false),.ah] 43 (aw b))) fun d e=>ae (mK .u64 a) fun f=>ae (an .lss y3 a (.int .i64 0)) fun g=>jn (fun h i=>ae (an .lss y3 (nth
 h 0) (.int .i64 0)) fun j=>af (au c false true (.fn 194 [] []) [j,(nth h 1)] i) fun i j=>af (aq j (aB 2 (nth h 2) i (aw j))) fun _ i=>aC b i [aD 2 i (nth h 2)])
 fun b=>ax g ( ae (un .neg f) fun g=>b [a,g,d] e) ( b [a,f,d] e)
theorem Vi {O:aL} (h:O 182=none):cc O funcs types 182 (cR Ot):= .cR h (aG Tryz.func182 (by kernel_rfl)) fun _ _ _ _=>by kernel_rfl
def OC (c:CF) (n:Nat) (a b:V) (d:S):bB:=
 af (aq d (bM 43 a (aw d))) fun a e=>af (aq e (bM 43 b (aw e))) fun b e=>af (aq e (aT [(.bool false),.ah] 43 (aw e))) fun e f=>af (aq f (aT [(.bool
 false),.ah] 43 (aw f))) fun f g=>ae (aJ 1 b) fun h=>ae (aM g h) fun h=>ae (aN h) fun h=>ae (an .eql y3 h (.int .i64 0)) fun h=>jn (fun i j=>ae (aJ
 1 (nth i 0)) fun k=>ae (aM j k) fun k=>ae (aJ 1 (nth i 1)) fun l=>ae (aM j l) fun l=>af (au c false true (.fn 195 [] []) [k,l] j) fun j k=>ae (cV 0
 j) fun l=>ae (cV 1 j) fun j=>af (aq k (aT [(.bool false),.ah] 43 (aw k))) fun k m=>af (aq m (aT [(.bool false),.ah] 43 (aw m))) fun m o=>af (aq
 o (aB 2 k l (aw o))) fun _ l=>af (aq l (aB 2 m j (aw l))) fun _ j=>ae (aJ 0 (nth i 0)) fun l=>ae (aM j l) fun l=>ae (ay l true (aJ 1 m)) fun o=>ae
 (ay l true (aM j o)) fun o=>ae (ay l true (aN o)) fun o=>ae (ay l true (an .gtr y3 o (.int .i64 0))) fun o=>ae (bn l o (.bool false)) fun l=>jn (fun o
 p=>ae (aJ 0 (nth o 0)) fun q=>ae (aM p q) fun q=>ae (aJ 0 (nth o 1)) fun r=>ae (aM p r) fun r=>ae (an .neq (Tr.get types 4) q r) fun q=>ae (ay
 q true (aJ 1 (nth o 2))) fun r=>ae (ay q true (aM p r)) fun r=>ae (ay q true (aN r)) fun r=>ae (ay q true (an .gtr y3 r (.int .i64 0))) fun r=>ae (bn
 q r (.bool false)) fun q=>ae (aJ 0 (nth o 2)) fun r=>af (aq p (aB 1 r q (aw p))) fun _ p=>ai (aj none p (ar (some (ag.aF (nth o 2))) p (aD 2 p (nth
 o 2)))) fun p q r=>ai (aj none q (ar (some (ag.aF (nth o 3))) q (aD 2 q (nth o 3)))) fun q s t=>ai (aj none s (dD (some (ag.aF (nth o 4))) (some (ag.aF
 (nth o 4))) s (aB 2 (nth o 4) p (aw s)))) fun _ p s=>ai (aj none p (dD (some (ag.aF (nth o 5))) (some (ag.aF (nth o 5))) p (aB 2 (nth o 5) q (aw p)))) fun
 _ p q=>bU (bE [0,0,1,7] [r,t,s,q]) <| aC d p [aD 2 p (nth o 4),aD 2 p (nth o 5)]) fun o=>ax l ( ae (aJ 1 k) fun l=>ae (aM j l) fun l=>af (aq
 j (dL 1 1 3 (bz 1 [(.int .i64 0)]) [(0,1,(.int .i64 1))] (aw j))) fun p q=>af (au c false true (.fn 199 [] []) [l,p] q) fun l p=>af (au c false true (.fn 192
 [] []) [(.bool false),l] p) fun l p=>af (aq p (aB 2 k l (aw p))) fun _ l=>ae (aJ 1 (nth i 1)) fun p=>ae (aM l p) fun p=>ae (aJ 1 m) fun q=>ae (aM
 l q) fun q=>af (au c false true (.fn 201 [] []) [p,q] l) fun l p=>af (au c false true (.fn 192 [] []) [(.bool false),l] p) fun l p=>af (aq p (aB 2 m l (aw
 p))) fun _ l=>o [(nth i 0),(nth i 1),k,m,(nth i 2),(nth i 3)] l) ( o [(nth i 0),(nth i 1),k,m,(nth i 2),(nth i 3)] j)) fun i=>ax h ( ae (aI [(.bool false),.ah]
 []) fun h=>ae (aI [(.bool false),.ah] []) fun j=>af (aq g (aB 2 e h (aw g))) fun _ h=>af (aq h (aB 2 f j (aw h))) fun _ h=>aC d h [aD 2 h e,aD
 2 h f]) ( i [a,b,e,f] g)
theorem Vr {O:aL} (h:O 203=none):cc O funcs types 203 (bR OC):= .bR h (aG Tryz.func203 (by kernel_rfl)) fun _ _ _ _ _=>by kernel_rfl
def Jv (c:CF) (n:Nat) (a b:V) (d:S):bB:=
 ae (aN a) fun e=>ae (an .add y3 e (.int .i64 1)) fun e=>af (aq d (bQ types 22 e e (aw d))) fun e f=>ae (aN a) fun g=>jn (fun h i=>ae (aN
 (nth h 0)) fun j=>ae (ck 1 (nth h 2) j) fun j=>af (aq i (aB 1 j (nth h 1) (aw i))) fun _ i=>aC d i [some (nth h 2)]) fun d=>bJ n (fun h i j=>ae (an .lss
 y3 (nth i 0) (nth i 1)) fun k=>jn (fun l m=>jn (fun o p=>ae (an .add y3 (nth o 0) (.int .i64 1)) fun q=>h [q,(nth o 1),(nth o 2),(nth o 3),(nth o 4),(nth o 5),(nth
 o 6)] p) fun h=>ae (ck 1 (nth l 3) (nth l 1)) fun o=>ae (aM m o) fun o=>ae (an .mul y3 o (nth l 4)) fun o=>ae (an .add y3 o (nth l 0)) fun o=>ae (an .rem
 y3 o (.int .i64 1000000000)) fun p=>ae (an .quo y3 o (.int .i64 1000000000)) fun o=>ae (ck 1 (nth l 6) (nth l 1)) fun q=>af (aq m (aB 1 q p (aw m))) fun _ m=>
 h [(nth l 1),(nth l 2),(nth l 3),(nth l 4),(nth l 5),o,(nth l 6)] m) fun h=>ax k ( h [(nth i 5),(nth i 0),(nth i 1),(nth i 2),(nth i 3),(nth i 4),(nth i 6)] j) ( d
 [(nth i 4),(nth i 5),(nth i 6)] j)) [(.int .i64 0),g,a,b,a,(.int .i64 0),e] f
theorem Vu {O:aL} (h:O 251=none):cc O funcs types 251 (bR Jv):= .bR h (aG Tryz.func251 (by kernel_rfl)) fun _ _ _ _ _=>by kernel_rfl
end Go.Vm.X
end
