/-
  A part of the proof of PromiseBytes: lemmas, in short letters, printed by a program out of the longer texts; conditions: those that each lemma names.
-/
import Derived.Test.YtalmddmghdinkaaGreatDoorL
set_option linter.all false
set_option linter.deprecated false
noncomputable section
namespace Go.Vm.X
open Go Go.Vm Go.Proofs Go.Proofs.bt
set_option maxRecDepth 100000
def F4 (c:CF) (n:Nat) (a b d e:V) (f:S):bB:=
 af (au c false true (.fn 7 [] []) [a] f) fun a g=>af (aq g (aT [(.int .i64 0),(.int .i64 0),(.int .i64 0),.ah,.ah] 37 (aw g))) fun g h=>af (aq h (aB
 5 g a (aw h))) fun _ a=>ae (aD 5 a g) fun h=>af (au c false true (.fn 8 [] []) [h,b,d] a) fun a h=>af (aq h (aT [(.int .i64 0),(.int .i64 0),(.int .i64 0),.ah,.ah]
 37 (aw h))) fun h i=>af (aq i (aB 5 h a (aw i))) fun _ a=>ae (aD 5 a g) fun i=>af (au c false false (.fn 12 [] []) [i] a) fun a i=>af (au c false false
 (.fn 22 [] []) [a] i) fun a i=>ai (aj none i (bk i a)) fun i j k=>ai (aj none j (ar (some ([i].flatMap ag.aF)) j (aN i))) fun i j l=>ai (aj none j
 (ar (some []) j (an .eql y3 i (.int .i64 0)))) fun i j m=>ai (aj none j (bk j i)) fun i j o=>ai (aj (some (i,false)) j (bk j a)) fun j p q=>ai (aj (some
 (i,false)) p (ar (some (ag.aF g)) p (aD 5 p g))) fun p r s=>ai (aj (some (i,false)) r (aH c (.fn 24 [] []) [p] r)) fun p r t=>ai (aj (some (i,false)) r
 (aH c (.fn 23 [] []) [j,p] r)) fun j p r=>ai (aj (some (i,false)) p (ar (some []) p (un .not j))) fun j p u=>ai (aj none p (ar (some []) p (bn i (.bool true)
 j))) fun i j p=>ai (aj none j (bk j i)) fun i j v=>ai (aj (some (i,false)) j (ar (some (ag.aF h)) j (aD 5 j h))) fun j w x=>ai (aj (some (i,false))
 w (aH c (.fn 12 [] []) [j] w)) fun j w y=>ai (aj (some (i,false)) w (aH c (.fn 22 [] []) [j] w)) fun j w z=>ai (aj (some (i,false)) w (ar (some (ag.aF
 h)) w (aD 5 w h))) fun h w A=>ai (aj (some (i,false)) w (aH c (.fn 24 [] []) [h] w)) fun h w B=>ai (aj (some (i,false)) w (aH c (.fn 23 [] []) [j,h] w)) fun
 h j w=>ai (aj (some (i,false)) j (ar (some []) j (un .not h))) fun h j D=>ai (aj none j (ar (some []) j (bn i (.bool true) h))) fun h i j=>bU (bE [0,
 1,3,7,15,15,47,127,255,511,1023,2047,4095,8191,2047,32767,65535,131071,262143] [k,l,m,o,q,s,t,r,u,p,v,x,y,z,A,B,w,D,j]) <| jn (fun j k=>ae (aN
 (nth j 3)) fun l=>af (au c false true (.fn 26 [] []) [(nth j 3),l] k) fun k l=>af (au c false true (.fn 26 [] []) [(nth j 4),(.int .i64 30)] l) fun l m=>af (aq
 m (bT iE 5 k l (aw m))) fun k l=>af (au c false true (.fn 25 [] []) [k] l) fun k l=>ae (cV 0 k) fun m=>ae (cV 1 k) fun o=>ae (cV 2 k) fun k=>af (aq
 l (aT [(.int .i64 0),(.int .i64 0),(.int .i64 0),.ah,.ah] 55 (aw l))) fun l p=>af (aq p (aB 5 l m (aw p))) fun _ m=>ae (aN (nth j 3)) fun p=>af (au
 c false true (.fn 9 [] []) [(nth j 0),p] m) fun m p=>ae (gE 1 (nth j 3) none (some m) none) fun q=>af (au c false true (.fn 25 [] []) [q] p) fun p q=>ae (cV 0 p)
 fun r=>ae (cV 1 p) fun _=>ae (cV 2 p) fun p=>af (aq q (aT [(.int .i64 0),(.int .i64 0),(.int .i64 0),.ah,.ah] 55 (aw q))) fun q s=>af (aq s (aB
 5 q r (aw s))) fun _ q=>ai (aj none q (bk q k)) fun k q r=>ai (aj none q (ar (some []) q (an .neq (Tr.get types 58) k (.int .i64 0)))) fun k q s=>ai (aj
 none q (bk q k)) fun k q t=>ai (aj (some (k,false)) q (bk q o)) fun o q u=>ai (aj (some (k,false)) q (bk q (nth j 3))) fun q v w=>ai (aj (some (k,false))
 v (ar (some ([q].flatMap ag.aF)) v (aN q))) fun q v x=>ai (aj (some (k,false)) v (ar (some []) v (an .neq y3 o q))) fun o q v=>ai (aj none q (ar (some
 []) q (bn k (.bool true) o))) fun k o q=>ai (aj none o (bk o k)) fun k o y=>ai (aj (some (k,false)) o (ar (some (ag.aF l)) o (aD 5 o l))) fun l o z=>
 ai (aj (some (k,false)) o (aH c (.fn 17 [] []) [l] o)) fun l o A=>ai (aj (some (k,false)) o (ar (some (ag.aF (nth j 1))) o (aD 5 o (nth j 1)))) fun o B D
 =>ai (aj (some (k,false)) B (aH c (.fn 16 [] []) [l,o] B)) fun l o B=>ai (aj (some (k,false)) o (ar (some []) o (un .not l))) fun l o E=>ai (aj none o (ar
 (some []) o (bn k (.bool true) l))) fun k l o=>ai (aj none l (bk l k)) fun k l F=>ai (aj (some (k,false)) l (bk l p)) fun l p G=>ai (aj (some (k,false))
 p (ar (some []) p (an .neq (Tr.get types 58) l (.int .i64 2)))) fun l p H=>ai (aj none p (ar (some []) p (bn k (.bool true) l))) fun k l p=>bU (bE [0,1,3,
 7,7,23,63,127,255,511,1023,511,4095,8191,16383,32767,65535,131071,262143] [r,s,t,u,w,x,v,q,y,z,A,D,B,E,o,F,G,H,p]) <| jn (fun o p=>ae (aN (nth
 o 1)) fun q=>af (au c false true (.fn 26 [] []) [(nth o 1),q] p) fun p q=>ae (mK .u8 (nth o 0)) fun r=>ae (ck 1 p (nth o 2)) fun s=>af (aq q (aB 1 s r
 (aw q))) fun _ q=>ai (aj none q (bk q p)) fun p q r=>ai (aj none q (bk q (nth o 1))) fun q s t=>ai (aj none s (bk s (nth o 2))) fun s u v=>ai (aj
 none u (aH c (.fn 26 [] []) [q,s] u)) fun q s u=>ai (aj none s (bk s (nth o 1))) fun s w x=>ai (aj none w (bk w (nth o 2))) fun w y z=>ai (aj none y (ar
 (some []) y (an .add y3 w (.int .i64 1)))) fun w y A=>ai (aj none y (ar (some []) y (gE 1 s (some w) none none))) fun s w y=>ai (aj none w (dD (some ([q,s].flatMap
 ag.aF)) (some (ag.aF q)) w (bT iE 5 q s (aw w)))) fun q s w=>ai (aj none s (bk s (nth o 1))) fun s B D=>ai (aj none B (bk B (nth o 2))) fun B E
 F=>ai (aj none E (aH c (.fn 26 [] []) [s,B] E)) fun s B E=>ai (aj none B (bk B (nth o 0))) fun B G H=>ai (aj none G (ar (some (ag.aF B)) G (mK .u8
 B))) fun B G I=>ai (aj none G (dD (some []) (some []) G (dL 1 1 5 (bz 1 [(.int .u8 0)]) [(0,1,B)] (aw G)))) fun B G J=>ai (aj none G (dD (some ([s,B].flatMap
 ag.aF)) (some (ag.aF s)) G (bT iE 5 s B (aw G)))) fun s B G=>ai (aj none B (bk B (nth o 1))) fun B K L=>ai (aj none K (bk K (nth o 2))) fun K M
 N=>ai (aj none M (ar (some []) M (gE 1 B (some K) none none))) fun B K M=>ai (aj none K (dD (some ([s,B].flatMap ag.aF)) (some (ag.aF s)) K (bT iE
 5 s B (aw K)))) fun s B K=>ai (aj none B (bk B (nth o 3))) fun B O P=>ai (aj none O (bk O (nth o 3))) fun o O Q=>ai (aj none O (ar (some ([o].flatMap
 ag.aF)) O (aN o))) fun o O R=>ai (aj none O (ar (some ([o,(.int .i64 30)].flatMap ag.aF)) O (EB false [o,(.int .i64 30)]))) fun o O S=>ai (aj none
 O (ar (some []) O (gE 1 B none (some o) none))) fun o B O=>ai (aj none B (dD (some []) (some []) B (dL 1 4 70 (bz 4 [.ah]) [(0,1,p),(1,1,q),(2,1,s),(3,1,
 o)] (aw B)))) fun o p q=>ai (aj none p (bk p o)) fun o p s=>bU (bE [0,0,0,6,0,0,32,112,254,0,0,2046,0,4096,12288,32766,0,0,196608,524286,0,0,
 2097152,6291456,15728640,33554431,67108863] [r,t,v,u,x,z,A,y,w,D,F,E,H,I,J,G,L,N,M,K,P,Q,R,S,O,q,s]) <| jn (fun _ q=>af (au c false false (.fn
 21 [] []) [] q) fun q r=>aC f r [some q]) fun q=>bJ n (fun r s t=>ae (aN (nth s 1)) fun u=>ae (an .lss y3 (nth s 0) u) fun u=>jn (fun v w=>jn (fun x y=>
 ae (an .add y3 (nth x 0) (.int .i64 1)) fun z=>r [z,(nth x 1)] y) fun r=>ae (ck 1 (nth v 1) (nth v 0)) fun x=>ae (aM w x) fun x=>af (au c false true (.fn
 25 [] []) [x] w) fun w x=>ae (cV 0 w) fun y=>ae (cV 1 w) fun z=>ae (cV 2 w) fun w=>af (aq x (aT [(.int .i64 0),(.int .i64 0),(.int .i64 0),.ah,.ah]
 55 (aw x))) fun x A=>af (aq A (aB 5 x y (aw A))) fun _ y=>ae (ck 1 (nth v 1) (nth v 0)) fun A=>ae (aM y A) fun A=>af (au c false true (.fn 27 [] []) [A]
 y) fun y A=>ae (cV 0 y) fun B=>ae (cV 1 y) fun D=>ae (cV 2 y) fun y=>af (aq A (aT [(.int .i64 0),(.int .i64 0),(.int .i64 0),.ah,.ah] 37 (aw A)))
 fun A E=>af (aq E (aB 5 A B (aw E))) fun _ B=>ae (an .neq (Tr.get types 58) w y) fun w=>ae (ay w false (some z)) fun y=>ae (ay w false (some D)) fun z
 =>ae (ay w false (an .neq y3 y z)) fun y=>ae (bn w (.bool true) y) fun w=>ae (ay w false (aD 5 B x)) fun x=>af (fT w false (au c true false (.fn 17
 [] []) [x] B) B) fun x y=>ae (ay w false (aD 5 y A)) fun z=>af (fT w false (au c true false (.fn 16 [] []) [x,z] y) y) fun x y=>ae (ay w false (un .not x))
 fun x=>ae (bn w (.bool true) x) fun w=>jn (fun x z=>r [(nth x 0),(nth x 1)] z) fun r=>ax w ( aC f y [some (.bool false)]) ( r [(nth v 0),(nth v 1)] y)) fun r=>
 ax u ( r [(nth s 0),(nth s 1)] t) ( q [] t)) [(.int .i64 0),o] p) fun o=>ax k ( aC f l [some (.bool false)]) ( o [(nth j 2),(nth j 3),m,(nth j 4)] l)) fun j=>ax
 h ( aC f i [some (.bool false)]) ( j [d,g,b,a,e] i)
theorem E4 {O:aL} (h:O 4=none):cc O funcs types 4 (Ih F4):= .Ih h (aG Tryz.func4 (by kernel_rfl)) fun _ _ _ _ _ _ _=>by kernel_rfl
def F7 (c:CF) (n:Nat) (a:V) (b:S):bB:=
 af (aq b (aT [(.int .i64 0),(.int .i64 0),(.int .i64 0),.ah,.ah] 37 (aw b))) fun d e=>af (au c false false (.fn 39 [] []) [a] e) fun e f=>af (au c false
 true (.fn 29 [] []) [a,(.int .i64 0),(.int .i64 6)] f) fun f g=>af (au c false true (.fn 29 [] []) [a,(.int .i64 1),(.int .i64 20)] g) fun g h=>ae (aI [(.int .i64
 0),(.int .i64 0),(.int .i64 0),.ah,.ah] [(0,1,f),(1,1,g)]) fun f=>af (aq h (aT [(.int .i64 0),(.int .i64 0),(.int .i64 0),.ah,.ah] 37 (aw h))) fun g h
 =>af (aq h (aB 5 g f (aw h))) fun _ f=>ai (aj none f (ar (some []) f (aJ 1 g))) fun f h i=>ai (aj none h (ar (some (ag.aF f)) h (aM h f))) fun f
 h j=>ai (aj none h (bk h a)) fun h k l=>ai (aj none k (aH c (.fn 29 [] []) [h,(.int .i64 2),(.int .i64 9)] k)) fun h k m=>ai (aj none k (ar (some [])
 k (an .add y3 f h))) fun f h k=>ai (aj none h (ar (some []) h (aJ 2 g))) fun h o p=>ai (aj none o (dD (some (ag.aF h)) (some (ag.aF h)) o (aB 1 h
 f (aw o)))) fun _ f h=>bU (bE [0,1,0,4,15,31,63] [i,j,l,m,k,p,h]) <| jn (fun h i=>ae (aD 5 i (nth h 0)) fun j=>af (aq i (aB 5 (nth h 1) j (aw i)))
 fun _ i=>aC b i [aD 5 i (nth h 1)]) fun b=>bJ n (fun h i j=>ae (aN (nth i 3)) fun k=>ae (an .lss y3 (nth i 1) k) fun k=>ae (ay k true (some (nth i 1)))
 fun l=>ae (ay k true (an .lss y3 l (.int .i64 4))) fun l=>ae (bn k l (.bool false)) fun k=>jn (fun l m=>jn (fun o p=>ae (an .add y3 (nth o 0) (.int .i64
 1)) fun q=>h [(nth o 1),q,(nth o 2),(nth o 3),(nth o 4),(nth o 5)] p) fun h=>ae (an .add y3 (nth l 0) (.int .i64 1)) fun o=>ae (an .add y3 (.int .i64 3) (nth l
 1)) fun p=>af (au c false false (.fn 29 [] []) [(nth l 2),p,(.int .i64 3)] m) fun m p=>ae (an .add y3 o m) fun m=>ae (aJ 3 (nth l 4)) fun o=>ae (aM p o)
 fun o=>af (aq p (dL 1 1 3 (bz 1 [(.int .i64 0)]) [(0,1,m)] (aw p))) fun p q=>af (aq q (bT iV 3 o p (aw q))) fun o p=>ae (aJ 3 (nth l 4)) fun q=>af
 (aq p (aB 1 q o (aw p))) fun _ o=>ae (aJ 4 (nth l 4)) fun p=>ae (aM o p) fun p=>ae (ck 16 (nth l 3) (nth l 1)) fun q=>ae (aD 16 o q) fun q=>af (aq
 o (dL 16 1 49 (bz 1 [(.bool false),.ah,(.bool false),.ah,(.bool false),.ah,(.bool false),.ah,(.bool false),.ah,(.bool false),.ah,(.bool false),.ah,(.bool
 false),.ah]) [(0,16,q)] (aw o))) fun o q=>af (aq q (bT mP 49 p o (aw q))) fun o p=>ae (aJ 4 (nth l 4)) fun q=>af (aq p (aB 1 q o (aw p))) fun _ o
 =>h [(nth l 1),m,(nth l 2),(nth l 3),(nth l 4),(nth l 5)] o) fun h=>ax k ( h [(nth i 0),(nth i 1),(nth i 2),(nth i 3),(nth i 4),(nth i 5)] j) ( b [(nth i 4),(nth i
 5)] j)) [(.int .i64 (-1)),(.int .i64 0),a,e,g,d] f
theorem E7 {O:aL} (h:O 7=none):cc O funcs types 7 (cR F7):= .cR h (aG Tryz.func7 (by kernel_rfl)) fun _ _ _ _=>by kernel_rfl
def S7 (c:CF) (n:Nat) (a:V) (b:S):bB:=
 af (aq b (bM 55 a (aw b))) fun a d=>af (aq d (aT [(.int .i64 0),(.int .i64 0),(.int .i64 0),.ah,.ah] 37 (aw d))) fun d e=>ae (aJ 0 a) fun f=>ae
 (aM e f) fun f=>ae (aJ 1 a) fun g=>ae (aM e g) fun g=>ae (aJ 2 a) fun h=>ae (aM e h) fun h=>ae (aJ 3 a) fun i=>ae (aM e i) fun i=>ae (aI
 [(.int .i64 0),(.int .i64 0),(.int .i64 0),.ah,.ah] [(0,1,f),(1,1,g),(2,1,h),(3,1,i)]) fun f=>af (aq e (aT [(.int .i64 0),(.int .i64 0),(.int .i64 0),.ah,.ah]
 37 (aw e))) fun e g=>af (aq g (aB 5 e f (aw g))) fun _ f=>jn (fun g h=>ae (aD 5 h (nth g 0)) fun i=>af (aq h (aB 5 (nth g 1) i (aw h))) fun _ h=>aC
 b h [aD 5 h (nth g 1)]) fun b=>bJ n (fun g h i=>ae (aJ 4 (nth h 1)) fun j=>ae (aM i j) fun j=>ae (aN j) fun j=>ae (an .lss y3 (nth h 0) j) fun j=>jn
 (fun k l=>jn (fun m o=>ae (an .add y3 (nth m 0) (.int .i64 1)) fun p=>g [p,(nth m 1),(nth m 2),(nth m 3)] o) fun g=>ae (aJ 4 (nth k 2)) fun m=>ae (aM l m)
 fun m=>ae (aJ 4 (nth k 1)) fun o=>ae (aM l o) fun o=>ae (ck 16 o (nth k 0)) fun o=>ae (aJ 0 o) fun o=>ae (aD 8 l o) fun o=>ae (aJ 4 (nth k 1)) fun
 p=>ae (aM l p) fun p=>ae (ck 16 p (nth k 0)) fun p=>ae (aJ 8 p) fun p=>ae (aD 8 l p) fun p=>ae (aI [(.bool false),.ah,(.bool false),.ah,(.bool
 false),.ah,(.bool false),.ah,(.bool false),.ah,(.bool false),.ah,(.bool false),.ah,(.bool false),.ah] [(0,8,o),(8,8,p)]) fun o=>af (aq l (dL 16
 1 49 (bz 1 [(.bool false),.ah,(.bool false),.ah,(.bool false),.ah,(.bool false),.ah,(.bool false),.ah,(.bool false),.ah,(.bool false),.ah,(.bool false),.ah])
 [(0,16,o)] (aw l))) fun l o=>af (aq o (bT mP 49 m l (aw o))) fun l m=>ae (aJ 4 (nth k 2)) fun o=>af (aq m (aB 1 o l (aw m))) fun _ l=>g [(nth k 0),
 (nth k 1),(nth k 2),(nth k 3)] l) fun g=>ax j ( g [(nth h 0),(nth h 1),(nth h 2),(nth h 3)] i) ( b [(nth h 2),(nth h 3)] i)) [(.int .i64 0),a,e,d] f
theorem E17 {O:aL} (h:O 17=none):cc O funcs types 17 (cR S7):= .cR h (aG Tryz.func17 (by kernel_rfl)) fun _ _ _ _=>by kernel_rfl
def S8 (c:CF) (n:Nat) (a b:V) (d:S):bB:=
 ae (aN a) fun e=>ae (aN b) fun f=>ae (an .neq y3 e f) fun e=>jn (fun f g=>jn (fun _ h=>aC d h [some (.bool true)]) fun h=>bJ n (fun i j k=>ae (aN
 (nth j 1)) fun l=>ae (an .lss y3 (nth j 0) l) fun l=>jn (fun m o=>jn (fun p q=>ae (an .add y3 (nth p 0) (.int .i64 1)) fun r=>i [r,(nth p 1),(nth p 2)] q) fun
 i=>ae (ck 1 (nth m 1) (nth m 0)) fun p=>ae (aM o p) fun p=>ae (ck 1 (nth m 2) (nth m 0)) fun q=>ae (aM o q) fun q=>ae (an .neq (Tr.get types 5) p q) fun
 p=>jn (fun q r=>i [(nth q 0),(nth q 1),(nth q 2)] r) fun i=>ax p ( aC d o [some (.bool false)]) ( i [(nth m 0),(nth m 1),(nth m 2)] o)) fun i=>ax l ( i [(nth j 0),
 (nth j 1),(nth j 2)] k) ( h [] k)) [(.int .i64 0),(nth f 0),(nth f 1)] g) fun f=>ax e ( aC d d [some (.bool false)]) ( f [a,b] d)
theorem E23 {O:aL} (h:O 23=none):cc O funcs types 23 (bR S8):= .bR h (aG Tryz.func23 (by kernel_rfl)) fun _ _ _ _ _=>by kernel_rfl
def VB (c:CF) (n:Nat) (a:V) (b:S):bB:=
 af (aq b (aT [(.int .i64 0),(.int .i64 0),(.int .i64 0),.ah,.ah] 37 (aw b))) fun d e=>af (au c false false (.fn 64 [] []) [a] e) fun e f=>ae (cV 0 e)
 fun g=>ae (cV 1 e) fun h=>ae (cV 2 e) fun e=>ae (an .neq (Tr.get types 58) e (.int .i64 0)) fun e=>ae (ay e false (some g)) fun i=>ae (ay e false (aN
 i)) fun i=>ae (ay e false (an .neq y3 i (.int .i64 3))) fun i=>ae (bn e (.bool true) i) fun e=>jn (fun i j=>ae (gE 1 (nth i 2) (some (nth i 0)) none none) fun
 k=>af (au c false false (.fn 64 [] []) [k] j) fun j k=>ae (cV 0 j) fun l=>ae (cV 1 j) fun m=>ae (cV 2 j) fun j=>ae (an .neq (Tr.get types 58) j (.int .i64
 0)) fun j=>jn (fun o p=>ae (an .add y3 (nth o 0) (nth o 1)) fun q=>ae (ck 1 (nth o 2) (.int .i64 0)) fun r=>ae (aM p r) fun r=>ae (ck 1 (nth o 2) (.int .i64
 1)) fun s=>ae (aM p s) fun s=>ae (ck 1 (nth o 2) (.int .i64 2)) fun t=>ae (aM p t) fun t=>ae (aI [(.int .i64 0),(.int .i64 0),(.int .i64 0),.ah,.ah]
 [(0,1,r),(1,1,s),(2,1,t),(3,1,(nth o 3))]) fun r=>af (aq p (aT [(.int .i64 0),(.int .i64 0),(.int .i64 0),.ah,.ah] 37 (aw p))) fun p s=>af (aq s
 (aB 5 p r (aw s))) fun _ r=>jn (fun s t=>ae (aD 5 t (nth s 0)) fun u=>af (au c false false (.fn 18 [] []) [u] t) fun t u=>ae (un .not t) fun t=>jn (fun v w
 =>ae (aD 5 w (nth v 0)) fun x=>af (aq w (aB 5 (nth v 2) x (aw w))) fun _ w=>aC b w [aD 5 w (nth v 2),some (nth v 1),some (.int .i64 0)]) fun v=>ax t ( ae
 (aI [(.int .i64 0),(.int .i64 0),(.int .i64 0),.ah,.ah] []) fun t=>af (aq u (aB 5 (nth s 2) t (aw u))) fun _ t=>aC b t [aD 5 t (nth s 2),some (.int .i64 0),
 some (.int .i64 2)]) ( v [(nth s 0),(nth s 1),(nth s 2)] u)) fun s=>bJ n (fun t u v=>ae (aN (nth u 1)) fun w=>ae (an .lss y3 (nth u 0) w) fun w=>jn (fun x y=>
 jn (fun z A=>ae (an .add y3 (nth z 0) (.int .i64 1)) fun B=>t [B,(nth z 1),(nth z 2),(nth z 3),(nth z 4),(nth z 5)] A) fun t=>jn (fun z A=>ae (aJ 4 (nth z 4))
 fun B=>ae (aM A B) fun B=>ae (ck 4 (nth z 0) (.int .i64 0)) fun D=>ae (aD 4 A D) fun D=>ae (ck 4 (nth z 0) (.int .i64 1)) fun E=>ae (aD 4 A E) fun E=>
 ae (aI [(.bool false),.ah,(.bool false),.ah,(.bool false),.ah,(.bool false),.ah] [(0,4,D),(4,4,E)]) fun D=>ae (ck 4 (nth z 0) (.int .i64 2)) fun E=>
 ae (aD 4 A E) fun E=>ae (ck 4 (nth z 0) (.int .i64 3)) fun F=>ae (aD 4 A F) fun F=>ae (aI [(.bool false),.ah,(.bool false),.ah,(.bool false),.ah,
 (.bool false),.ah] [(0,4,E),(4,4,F)]) fun E=>ae (aI [(.bool false),.ah,(.bool false),.ah,(.bool false),.ah,(.bool false),.ah,(.bool false),.ah,(.bool
 false),.ah,(.bool false),.ah,(.bool false),.ah] [(0,8,D),(8,8,E)]) fun D=>af (aq A (dL 16 1 49 (bz 1 [(.bool false),.ah,(.bool false),.ah,(.bool false),.ah,
 (.bool false),.ah,(.bool false),.ah,(.bool false),.ah,(.bool false),.ah,(.bool false),.ah]) [(0,16,D)] (aw A))) fun A D=>af (aq D (bT mP 49 B A (aw
 D))) fun A B=>ae (aJ 4 (nth z 4)) fun D=>af (aq B (aB 1 D A (aw B))) fun _ A=>t [(nth z 1),(nth z 2),(nth z 3),(nth z 4),(nth z 5),(nth z 6)] A) fun t=>bJ
 n (fun z A B=>ae (an .lss y3 (nth A 0) (.int .i64 4)) fun D=>jn (fun E F=>jn (fun G H=>ae (an .add y3 (nth G 0) (.int .i64 1)) fun I=>z [I,(nth G 1),(nth G 2),
 (nth G 3),(nth G 4),(nth G 5),(nth G 6),(nth G 7)] H) fun z=>ae (gE 1 (nth E 5) (some (nth E 0)) none none) fun G=>af (au c false true (.fn 65 [] []) [G] F) fun F
 G=>ae (cV 0 F) fun H=>ae (cV 1 F) fun I=>ae (cV 2 F) fun F=>af (aq G (aT [(.bool false),.ah,(.bool false),.ah] 45 (aw G))) fun G J=>af (aq
 J (aB 4 G H (aw J))) fun _ H=>ae (an .neq (Tr.get types 58) F (.int .i64 0)) fun F=>jn (fun J K=>ae (an .add y3 (nth J 0) (nth J 1)) fun L=>ae (aD 4 K (nth
 J 3)) fun M=>af (aq K (dL 4 1 45 (bz 1 [(.bool false),.ah,(.bool false),.ah]) [(0,4,M)] (aw K))) fun K M=>af (aq M (bT Fx 45 (nth J 2) K (aw M))) fun
 K M=>z [(nth J 4),K,(nth J 5),(nth J 6),(nth J 7),(nth J 8),L,(nth J 9)] M) fun z=>ax F ( ae (aI [(.int .i64 0),(.int .i64 0),(.int .i64 0),.ah,.ah] [])
 fun F=>af (aq H (aB 5 (nth E 7) F (aw H))) fun _ F=>aC b F [aD 5 F (nth E 7),some (.int .i64 0),some (.int .i64 2)]) ( z [(nth E 0),I,(nth E 1),G,(nth E 2),(nth
 E 3),(nth E 4),(nth E 5),(nth E 6),(nth E 7)] H)) fun z=>ax D ( z [(nth A 6),(nth A 1),(nth A 0),(nth A 2),(nth A 3),(nth A 4),(nth A 5),(nth A 7)] B) ( t [(nth A 1),
 (nth A 2),(nth A 3),(nth A 4),(nth A 5),(nth A 6),(nth A 7)] B)) [(.int .i64 0),.ah,(nth x 0),(nth x 1),(nth x 2),(nth x 3),(nth x 4),(nth x 5)] y) fun t=>ax w (
 t [(nth u 0),(nth u 1),(nth u 2),(nth u 3),(nth u 4),(nth u 5)] v) ( s [(nth u 3),(nth u 4),(nth u 5)] v)) [(.int .i64 0),(nth o 3),(nth o 4),p,q,(nth o 5)] r) fun o=>
 ax j ( ae (aI [(.int .i64 0),(.int .i64 0),(.int .i64 0),.ah,.ah] []) fun j=>af (aq k (aB 5 (nth i 3) j (aw k))) fun _ j=>aC b j [aD 5 j (nth i 3),some
 (.int .i64 0),some (.int .i64 2)]) ( o [(nth i 0),m,(nth i 1),l,(nth i 2),(nth i 3)] k)) fun i=>ax e ( ae (aI [(.int .i64 0),(.int .i64 0),(.int .i64 0),.ah,.ah]
 []) fun e=>af (aq f (aB 5 d e (aw f))) fun _ e=>aC b e [aD 5 e d,some (.int .i64 0),some (.int .i64 2)]) ( i [h,g,a,d] f)
theorem E27 {O:aL} (h:O 27=none):cc O funcs types 27 (cR VB):= .cR h (aG Tryz.func27 (by kernel_rfl)) fun _ _ _ _=>by kernel_rfl
def Ta (c:CF) (n:Nat) (a b:V) (d:S):bB:=
 af (aq d (aT [(.bool false),.ah,(.bool false),.ah] 45 (aw d))) fun e f=>af (au c false true (.fn 67 [] []) [a] f) fun a f=>af (au c false true (.fn 67
 [] []) [b] f) fun b f=>af (au c false true (.fn 66 [] []) [a,b] f) fun a b=>af (aq b (aB 4 e a (aw b))) fun _ a=>aC d a [aD 4 a e]
theorem E28 {O:aL} (h:O 28=none):cc O funcs types 28 (bR Ta):= .bR h (aG Tryz.func28 (by kernel_rfl)) fun _ _ _ _ _=>by kernel_rfl
def Td (c:CF) (n:Nat) (a:V) (b:S):bB:=
 jn (fun d e=>aC b e [some (nth d 0)]) fun d=>bJ n (fun e f g=>ae (an .mul y3 (.int .i64 4) (nth f 0)) fun h=>ae (aN (nth f 1)) fun i=>ae (an .lss y3 h
 i) fun h=>ae (ay h true (some (nth f 0))) fun i=>ae (ay h true (an .lss y3 i (.int .i64 12))) fun i=>ae (bn h i (.bool false)) fun h=>jn (fun i j=>jn (fun
 k l=>ae (an .add y3 (nth k 0) (.int .i64 1)) fun m=>e [m,(nth k 1),(nth k 2)] l) fun e=>ae (an .mul y3 (.int .i64 4) (nth i 1)) fun k=>af (au c false true
 (.fn 82 [] []) [(nth i 2),k] j) fun j k=>af (aq k (aT [(.bool false),.ah,(.bool false),.ah,(.bool false),.ah,(.bool false),.ah] 47 (aw k))) fun k l=>af
 (aq l (aB 8 k j (aw l))) fun _ j=>ae (an .mul y3 (.int .i64 4) (nth i 1)) fun l=>ae (an .add y3 l (.int .i64 2)) fun l=>af (au c false true (.fn 82 [] [])
 [(nth i 2),l] j) fun j l=>af (aq l (aT [(.bool false),.ah,(.bool false),.ah,(.bool false),.ah,(.bool false),.ah] 47 (aw l))) fun l m=>af (aq m (aB
 8 l j (aw m))) fun _ j=>ai (aj none j (ar (some []) j (aJ 0 k))) fun j m o=>ai (aj none m (ar (some (ag.aF j)) m (aD 4 m j))) fun j m p=>ai (aj none
 m (ar (some []) m (aJ 0 l))) fun m q r=>ai (aj none q (ar (some (ag.aF m)) q (aD 4 q m))) fun m q s=>ai (aj none q (ar (some []) q (aJ 0 l))) fun q t
 u=>ai (aj none t (ar (some (ag.aF q)) t (aD 4 t q))) fun q t v=>ai (aj none t (aH c (.fn 83 [] []) [m,q] t)) fun m q t=>ai (aj none q (aH c (.fn
 33 [] []) [j,m] q)) fun j m q=>ai (aj none m (ar (some []) m (aJ 4 k))) fun m w x=>ai (aj none w (ar (some (ag.aF m)) w (aD 4 w m))) fun m w y=>ai
 (aj none w (ar (some []) w (aJ 4 l))) fun w z A=>ai (aj none z (ar (some (ag.aF w)) z (aD 4 z w))) fun w z B=>ai (aj none z (ar (some []) z (aJ 4 l)))
 fun l z D=>ai (aj none z (ar (some (ag.aF l)) z (aD 4 z l))) fun l z E=>ai (aj none z (aH c (.fn 83 [] []) [w,l] z)) fun l w z=>ai (aj none w (aH
 c (.fn 33 [] []) [m,l] w)) fun l m w=>ai (aj none m (ar (some []) m (aI [(.bool false),.ah,(.bool false),.ah,(.bool false),.ah,(.bool false),.ah] [(0,4,
 j),(4,4,l)]))) fun j l m=>ai (aj none l (dD (some []) (some []) l (aT [(.bool false),.ah,(.bool false),.ah,(.bool false),.ah,(.bool false),.ah] 47 (aw l))))
 fun l F G=>ai (aj none F (dD (some (ag.aF l)) (some (ag.aF l)) F (aB 8 l j (aw F)))) fun _ j F=>bU (bE [0,1,0,4,0,16,60,127,0,256,0,1024,0,
 4096,15615,32767,65535,0,262143] [o,p,r,s,u,v,t,q,x,y,A,B,D,E,z,w,m,G,F]) <| ae (aD 8 j k) fun k=>ae (aD 8 j l) fun l=>ae (aI [(.bool false),.ah,
 (.bool false),.ah,(.bool false),.ah,(.bool false),.ah,(.bool false),.ah,(.bool false),.ah,(.bool false),.ah,(.bool false),.ah] [(0,8,k),(8,8,l)]) fun
 k=>af (aq j (dL 16 1 49 (bz 1 [(.bool false),.ah,(.bool false),.ah,(.bool false),.ah,(.bool false),.ah,(.bool false),.ah,(.bool false),.ah,(.bool
 false),.ah,(.bool false),.ah]) [(0,16,k)] (aw j))) fun j k=>af (aq k (bT mP 49 (nth i 0) j (aw k))) fun j k=>e [(nth i 1),(nth i 2),j] k) fun e=>ax h
 ( e [(nth f 2),(nth f 0),(nth f 1)] g) ( d [(nth f 2)] g)) [(.int .i64 0),a,.ah] b
theorem E39 {O:aL} (h:O 39=none):cc O funcs types 39 (cR Td):= .cR h (aG Tryz.func39 (by kernel_rfl)) fun _ _ _ _=>by kernel_rfl
def F51 (c:CF) (n:Nat) (a b:V) (d:S):bB:=
 af (aq d (bM 108 b (aw d))) fun b e=>ae (aN a) fun f=>jn (fun g h=>aC d h [some (nth g 0)]) fun d=>bJ n (fun g h i=>ae (an .lss y3 (nth h 0) (nth h
 1)) fun j=>jn (fun k l=>jn (fun m o=>ae (an .add y3 (nth m 0) (.int .i64 1)) fun p=>g [p,(nth m 1),(nth m 2),(nth m 3),(nth m 4)] o) fun g=>ae (ck 16 (nth k 2)
 (nth k 0)) fun m=>ae (aD 16 l m) fun m=>af (aq l (aT [(.bool false),.ah,(.bool false),.ah,(.bool false),.ah,(.bool false),.ah,(.bool false),.ah,(.bool
 false),.ah,(.bool false),.ah,(.bool false),.ah] 108 (aw l))) fun l o=>af (aq o (aB 16 l m (aw o))) fun _ m=>ae (aD 16 m l) fun l=>ae (aD 16 m (nth
 k 3)) fun o=>af (au c false false (.fn 93 [] []) [l,o] m) fun l m=>jn (fun o p=>g [(nth o 0),(nth o 1),(nth o 2),(nth o 3),(nth o 4)] p) fun g=>ax l ( af (aq
 m (dL 1 1 3 (bz 1 [(.int .i64 0)]) [(0,1,(nth k 0))] (aw m))) fun l o=>af (aq o (bT iV 3 (nth k 4) l (aw o))) fun l o=>g [(nth k 0),(nth k 1),(nth k 2),(nth
 k 3),l] o) ( g [(nth k 0),(nth k 1),(nth k 2),(nth k 3),(nth k 4)] m)) fun g=>ax j ( g [(nth h 0),(nth h 1),(nth h 2),(nth h 3),(nth h 4)] i) ( d [(nth h 4)] i)) [(.int .i64
 0),f,a,b,.ah] e
theorem E51 {O:aL} (h:O 51=none):cc O funcs types 51 (bR F51):= .bR h (aG Tryz.func51 (by kernel_rfl)) fun _ _ _ _ _=>by kernel_rfl
def Ti (c:CF) (n:Nat) (a:V) (b:S):bB:=
 ae (aN a) fun d=>jn (fun e f=>af (au c false false (.fn 99 [] []) [.ah,(nth e 0)] f) fun f g=>ae (aN (nth e 1)) fun h=>jn (fun i j=>aC b j [some (nth
 i 0)]) fun i=>bJ n (fun j k l=>ae (an .lss y3 (nth k 0) (nth k 1)) fun m=>jn (fun o p=>jn (fun q r=>ae (an .add y3 (nth q 0) (.int .i64 1)) fun s=>j [s,(nth
 q 1),(nth q 2),(nth q 3)] r) fun j=>ae (ck 1 (nth o 3) (nth o 1)) fun q=>ae (aM p q) fun q=>af (aq p (bT iE 5 (nth o 0) q (aw p))) fun p q=>j [(nth o 1),
 (nth o 2),(nth o 3),p] q) fun j=>ax m ( j [(nth k 3),(nth k 0),(nth k 1),(nth k 2)] l) ( i [(nth k 3)] l)) [(.int .i64 0),h,(nth e 1),f] g) fun e=>bJ n (fun f g h
 =>ae (an .lss y3 (nth g 0) (nth g 1)) fun i=>jn (fun j k=>jn (fun l m=>ae (an .add y3 (nth l 0) (.int .i64 1)) fun o=>f [o,(nth l 1),(nth l 2),(nth l 3),(nth
 l 4)] m) fun f=>ae (ck 1 (nth j 3) (nth j 1)) fun l=>ae (aM k l) fun l=>ae (aN l) fun l=>ae (an .add y3 (nth j 0) l) fun l=>ae (an .lss y3 l (.int .i64
 0)) fun m=>jn (fun o p=>f [(nth o 0),(nth o 1),(nth o 2),(nth o 3),(nth o 4)] p) fun f=>ax m ( none) ( f [(nth j 1),(nth j 2),(nth j 3),l,(nth j 4)] k)) fun f=>ax
 i ( f [(nth g 3),(nth g 0),(nth g 1),(nth g 2),(nth g 4)] h) ( e [(nth g 3),(nth g 4)] h)) [(.int .i64 0),d,a,(.int .i64 0),a] b
theorem E57 {O:aL} (h:O 57=none):cc O funcs types 57 (cR Ti):= .cR h (aG Tryz.func57 (by kernel_rfl)) fun _ _ _ _=>by kernel_rfl
def Tj (c:CF) (n:Nat) (a:V) (b:S):bB:=
 ae (aN a) fun d=>af (au c false true (.fn 101 [] []) [d] b) fun d e=>jn (fun f g=>aC b g [some (nth f 0)]) fun b=>bJ n (fun f g h=>ae (aN (nth g 1))
 fun i=>ae (an .lss y3 (nth g 0) i) fun i=>jn (fun j k=>jn (fun l m=>ae (an .add y3 (nth l 0) (.int .i64 1)) fun o=>f [o,(nth l 1),(nth l 2)] m) fun f=>ae
 (ck 1 (nth j 2) (nth j 1)) fun l=>ae (aM k l) fun l=>af (au c false true (.fn 101 [] []) [l] k) fun k l=>af (aq l (bT iE 5 (nth j 0) k (aw l))) fun k l=>
 f [(nth j 1),(nth j 2),k] l) fun f=>ax i ( f [(nth g 2),(nth g 0),(nth g 1)] h) ( b [(nth g 2)] h)) [(.int .i64 0),a,d] e
theorem E59 {O:aL} (h:O 59=none):cc O funcs types 59 (cR Tj):= .cR h (aG Tryz.func59 (by kernel_rfl)) fun _ _ _ _=>by kernel_rfl
def Tp (c:CF) (n:Nat) (a:V) (b:S):bB:=
 af (aq b (bM 45 a (aw b))) fun a d=>af (aq d (aT [(.bool false),.ah] 43 (aw d))) fun d e=>ae (aJ 2 a) fun f=>ae (aJ 1 f) fun f=>ae (aM e f) fun
 f=>ae (aN f) fun f=>ae (an .eql y3 f (.int .i64 0)) fun f=>jn (fun g h=>ae (aJ 2 (nth g 0)) fun i=>ae (aD 2 h i) fun i=>af (aq h (aB 2 (nth g 1)
 i (aw h))) fun _ h=>aC b h [aD 2 h (nth g 1)]) fun g=>ax f ( af (au c false true (.fn 67 [] []) [(.int .i64 1)] e) fun f h=>af (aq h (aB 2 d f (aw h))) fun
 _ f=>aC b f [aD 2 f d]) ( g [a,d] e)
theorem E69 {O:aL} (h:O 69=none):cc O funcs types 69 (cR Tp):= .cR h (aG Tryz.func69 (by kernel_rfl)) fun _ _ _ _=>by kernel_rfl
def Tv (c:CF) (n:Nat) (a:V) (b:S):bB:=
 ae (aN a) fun d=>jn (fun _ e=>aC b e [some (.bool true)]) fun e=>bJ n (fun f g h=>ae (an .lss y3 (nth g 0) (nth g 1)) fun i=>jn (fun j k=>jn (fun l m=>
 ae (an .add y3 (nth l 0) (.int .i64 1)) fun o=>f [o,(nth l 1),(nth l 2),(nth l 3)] m) fun f=>ae (ck 1 (nth j 2) (nth j 0)) fun l=>ae (aM k l) fun l=>ae (an .lss
 y3 l (.int .i64 0)) fun m=>ae (ay m false (some (nth j 0))) fun o=>ae (ay m false (an .gtr y3 o (.int .i64 0))) fun o=>ae (ay m false (some o)) fun o=>ae
 (ay o true (some l)) fun l=>ae (ay o true (some (nth j 3))) fun p=>ae (ay o true (some (nth j 0))) fun q=>ae (ay o true (an .sub y3 q (.int .i64 1))) fun q
 =>ae (ay o true (ck 1 p q)) fun p=>ae (ay o true (aM k p)) fun p=>ae (ay o true (an .leq y3 l p)) fun l=>ae (ay m false (bn o l (.bool false))) fun
 l=>ae (bn m (.bool true) l) fun l=>jn (fun m o=>f [(nth m 0),(nth m 1),(nth m 2),(nth m 3)] o) fun f=>ax l ( aC b k [some (.bool false)]) ( f [(nth j 0),(nth
 j 1),(nth j 2),(nth j 3)] k)) fun f=>ax i ( f [(nth g 0),(nth g 1),(nth g 2),(nth g 3)] h) ( e [] h)) [(.int .i64 0),d,a,a] b
theorem E86 {O:aL} (h:O 86=none):cc O funcs types 86 (cR Tv):= .cR h (aG Tryz.func86 (by kernel_rfl)) fun _ _ _ _=>by kernel_rfl
def F97 (c:CF) (n:Nat) (a b d:V) (e:S):bB:=
 af (aq e (bM 28 a (aw e))) fun a f=>af (aq f (aT [(.bool false),.ah,(.bool false),.ah,(.bool false),.ah,(.bool false),.ah] 47 (aw f))) fun f g=>af
 (aq g (aT [(.bool false),.ah,(.bool false),.ah] 45 (aw g))) fun g h=>ae (aD 4 h a) fun a=>af (au c false true (.fn 143 [] []) [a,b,d] h) fun a b=>ae
 (cV 0 a) fun d=>ae (cV 1 a) fun h=>ae (cV 2 a) fun a=>af (aq b (aT [(.bool false),.ah,(.bool false),.ah] 45 (aw b))) fun b i=>af (aq i (aT [(.bool
 false),.ah,(.bool false),.ah] 45 (aw i))) fun i j=>af (aq j (aT [(.bool false),.ah,(.bool false),.ah] 45 (aw j))) fun j k=>af (aq k (aB 4 b d (aw
 k))) fun _ d=>af (aq d (aB 4 i h (aw d))) fun _ d=>af (aq d (aB 4 j a (aw d))) fun _ a=>ai (aj none a (ar (some (ag.aF b)) a (aD 4 a b))) fun a
 b d=>ai (aj none b (ar (some (ag.aF i)) b (aD 4 b i))) fun b h i=>ai (aj none h (ar (some []) h (aI [(.bool false),.ah,(.bool false),.ah,(.bool
 false),.ah,(.bool false),.ah] [(0,4,a),(4,4,b)]))) fun a b h=>ai (aj none b (ar (some (ag.aF j)) b (aD 4 b j))) fun b j k=>ai (aj none j (dD (some
 (ag.aF f)) (some (ag.aF f)) j (aB 8 f a (aw j)))) fun _ a j=>ai (aj none a (dD (some (ag.aF g)) (some (ag.aF g)) a (aB 4 g b (aw a)))) fun _ a
 b=>bU (bE [0,0,3,0,7,31] [d,i,h,k,j,b]) <| aC e a [aD 8 a f,aD 4 a g]
theorem E97 {O:aL} (h:O 97=none):cc O funcs types 97 (pR F97):= .pR h (aG Tryz.func97 (by kernel_rfl)) fun _ _ _ _ _ _=>by kernel_rfl
def Jl (c:CF) (n:Nat) (a:V) (b:S):bB:=
 af (aq b (bM 43 a (aw b))) fun a d=>ai (aj none d (ar (some (ag.aF a)) d (aD 2 d a))) fun d e f=>ai (aj none e (aH c (.fn 154 [] []) [d] e)) fun
 d e g=>ai (aj none e (dD (some []) (some []) e (dL 1 1 3 (bz 1 [(.int .i64 0)]) [(0,1,d)] (aw e)))) fun d e h=>ai (aj none e (ar (some []) e (aJ 1 a))) fun
 a e i=>ai (aj none e (ar (some (ag.aF a)) e (aM e a))) fun a e j=>ai (aj none e (dD (some ([d,a].flatMap ag.aF)) (some (ag.aF d)) e (bT iV
 3 d a (aw e)))) fun a d e=>ai (aj none d (aH c (.fn 56 [] []) [a] d)) fun a d k=>ai (aj none d (bk d a)) fun a d l=>bU (bE [0,1,3,0,8,31,63,127]
 [f,g,h,i,j,e,k,l]) <| aC b d [some a]
theorem UN {O:aL} (h:O 100=none):cc O funcs types 100 (cR Jl):= .cR h (aG Tryz.func100 (by kernel_rfl)) fun _ _ _ _=>by kernel_rfl
def F5 (c:CF) (n:Nat) (a:V) (b:S):bB:=
 ae (an .lss y3 a (.int .i64 0)) fun d=>jn (fun e f=>jn (fun g h=>ae (aN (nth g 0)) fun i=>ae (an .geq y3 (nth g 1) (.int .i64 0)) fun j=>jn (fun k l=>ae
 (an .sub y3 (nth k 0) (.int .i64 1)) fun m=>jn (fun o p=>aC b p [some (nth o 0)]) fun o=>bJ n (fun p q r=>ae (an .geq y3 (nth q 0) (.int .i64 0)) fun s=>jn (fun
 t u=>jn (fun v w=>ae (an .sub y3 (nth v 0) (.int .i64 1)) fun x=>p [x,(nth v 1),(nth v 2),(nth v 3)] w) fun p=>ae (ck 1 (nth t 2) (nth t 1)) fun v=>ae (aM
 u v) fun v=>ae (an .lss y3 (nth t 3) (.int .i64 0)) fun w=>jn (fun x y=>af (aq y (dL 1 1 5 (bz 1 [(.int .u8 0)]) [(0,1,(nth x 1))] (aw y))) fun y z=>af (aq
 z (bT iE 5 (nth x 0) y (aw z))) fun y z=>p [(nth x 2),(nth x 3),(nth x 4),y] z) fun p=>ax w ( ae (an .sub (Tr.get types 5) (.int .u8 255) v) fun w=>p [(nth t 0),
 w,(nth t 1),(nth t 2),(nth t 3)] u) ( p [(nth t 0),v,(nth t 1),(nth t 2),(nth t 3)] u)) fun p=>ax s ( p [(nth q 3),(nth q 0),(nth q 1),(nth q 2)] r) ( o [(nth q 3)] r))
 [m,(nth k 1),(nth k 2),(nth k 3)] l) fun k=>ax j ( ae (an .add y3 (.int .i64 128) i) fun j=>ae (mK .u8 j) fun j=>af (aq h (dL 1 1 5 (bz 1 [(.int .u8 0)])
 [(0,1,j)] (aw h))) fun j l=>af (aq l (bT iE 5 .ah j (aw l))) fun j l=>k [i,(nth g 0),(nth g 1),j] l) ( ae (an .sub y3 (.int .i64 127) i) fun j=>ae (mK .u8
 j) fun j=>af (aq h (dL 1 1 5 (bz 1 [(.int .u8 0)]) [(0,1,j)] (aw h))) fun h j=>af (aq j (bT iE 5 .ah h (aw j))) fun h j=>k [i,(nth g 0),(nth g 1),h]
 j)) fun g=>bJ n (fun h i j=>ae (an .gtr y3 (nth i 0) (.int .i64 0)) fun k=>jn (fun l m=>jn (fun o p=>h [(nth o 0),(nth o 1),(nth o 2)] p) fun h=>ae (an .rem
 y3 (nth l 1) (.int .i64 256)) fun o=>ae (mK .u8 o) fun o=>af (aq m (dL 1 1 5 (bz 1 [(.int .u8 0)]) [(0,1,o)] (aw m))) fun m o=>af (aq o (bT iE 5 (nth
 l 0) m (aw o))) fun m o=>ae (an .quo y3 (nth l 1) (.int .i64 256)) fun p=>h [p,m,(nth l 2)] o) fun h=>ax k ( h [(nth i 1),(nth i 0),(nth i 2)] j) ( g [(nth i 1),
 (nth i 2)] j)) [(nth e 0),.ah,(nth e 1)] f) fun e=>ax d ( ae (an .sub y3 (.int .i64 (-1)) a) fun d=>e [d,a] b) ( e [a,a] b)
theorem Nr {O:aL} (h:O 101=none):cc O funcs types 101 (cR F5):= .cR h (aG Tryz.func101 (by kernel_rfl)) fun _ _ _ _=>by kernel_rfl
def Jp (c:CF) (n:Nat) (a:V) (b:S):bB:=
 af (aq b (aT [(.bool false),.ah] 43 (aw b))) fun d e=>af (au c false false (.fn 61 [] []) [a] e) fun a e=>ae (cV 0 a) fun f=>ae (cV 1 a) fun g=>ae
 (cV 2 a) fun a=>ae (an .neq (Tr.get types 58) a (.int .i64 0)) fun h=>jn (fun i j=>ae (aN (nth i 0)) fun k=>ae (an .eql y3 k (.int .i64 0)) fun k=>jn (fun
 l m=>ai (aj none m (bk m (nth l 0))) fun m o p=>ai (aj none o (ar (some []) o (ck 1 m (.int .i64 0)))) fun m o q=>ai (aj none o (ar (some (ag.aF
 m)) o (aM o m))) fun m o r=>ai (aj none o (ar (some []) o (an .eql y3 m (.int .i64 (-1))))) fun m o s=>ai (aj none o (bk o (nth l 0))) fun o t u=>ai (aj
 none t (ar (some []) t (gE 1 o (some (.int .i64 1)) none none))) fun o t v=>ai (aj none t (aH c (.fn 45 [] []) [o] t)) fun o t w=>ai (aj none t (ar (some [])
 t (aI [(.bool false),.ah] [(0,1,m),(1,1,o)]))) fun m o t=>ai (aj none o (dD (some []) (some []) o (aT [(.bool false),.ah] 43 (aw o)))) fun o x y=>ai (aj
 none x (dD (some (ag.aF o)) (some (ag.aF o)) x (aB 2 o m (aw x)))) fun _ m x=>bU (bE [0,1,3,7,0,16,48,127,0,511] [p,q,r,s,u,v,w,t,y,x]) <|
 ae (aD 2 m o) fun p=>af (au c true false (.fn 157 [] []) [p] m) fun m p=>ae (un .not m) fun m=>ae (ay m false (aD 2 p o)) fun q=>af (fT m false (au
 c true false (.fn 154 [] []) [q] p) p) fun p q=>ae (ay m false (some (nth l 0))) fun r=>ae (ay m false (ck 1 r (.int .i64 0))) fun r=>ae (ay m false (aM q r))
 fun r=>ae (ay m false (an .neq y3 p r)) fun p=>ae (bn m (.bool true) p) fun m=>jn (fun p r=>ae (aD 2 r (nth p 0)) fun s=>af (aq r (aB 2 (nth p 2) s
 (aw r))) fun _ r=>aC b r [aD 2 r (nth p 2),some (nth p 1),some (.int .i64 0)]) fun p=>ax m ( ae (aI [(.bool false),.ah] []) fun m=>af (aq q (aB 2 (nth
 l 2) m (aw q))) fun _ m=>aC b m [aD 2 m (nth l 2),some (.int .i64 0),some (.int .i64 2)]) ( p [o,(nth l 1),(nth l 2)] q)) fun l=>ax k ( ae (aI [(.bool false),.ah]
 []) fun k=>af (aq j (aB 2 (nth i 2) k (aw j))) fun _ k=>aC b k [aD 2 k (nth i 2),some (.int .i64 0),some (.int .i64 2)]) ( l [(nth i 0),(nth i 1),(nth i 2)] j)) fun
 i=>ax h ( ae (aI [(.bool false),.ah] []) fun h=>af (aq e (aB 2 d h (aw e))) fun _ h=>aC b h [aD 2 h d,some (.int .i64 0),some a]) ( i [f,g,d] e)
theorem UR {O:aL} (h:O 105=none):cc O funcs types 105 (cR Jp):= .cR h (aG Tryz.func105 (by kernel_rfl)) fun _ _ _ _=>by kernel_rfl
def Gb (c:CF) (n:Nat) (a b:V) (d:S):bB:=
 af (au c false false (.fn 109 [] []) [a] d) fun e f=>ae (cV 0 e) fun g=>ae (cV 1 e) fun h=>ae (cV 2 e) fun e=>ae (an .neq (Tr.get types 58) e (.int .i64
 0)) fun i=>jn (fun j k=>ae (an .lss y3 (nth j 2) (.int .i64 0)) fun l=>jn (fun m o=>ae (aN (nth m 1)) fun p=>ae (an .gtr y3 (nth m 2) p) fun p=>ae (ay
 p false (some (nth m 2))) fun q=>ae (ay p false (some (nth m 0))) fun r=>ae (ay p false (an .mul y3 q r)) fun q=>ae (ay p false (some (nth m 1))) fun r=>ae
 (ay p false (aN r)) fun r=>ae (ay p false (some (nth m 3))) fun s=>ae (ay p false (an .sub y3 r s)) fun r=>ae (ay p false (an .gtr y3 q r)) fun q=>ae
 (bn p (.bool true) q) fun p=>jn (fun q r=>aC d r [some (nth q 0),some (nth q 1),some (.int .i64 0)]) fun q=>ax p ( aC d o [some (.int .i64 0),some (.int .i64 0),
 some (.int .i64 3)]) ( q [(nth m 2),(nth m 3)] o)) fun m=>ax l ( aC d k [some (.int .i64 0),some (.int .i64 0),some (.int .i64 2)]) ( m [(nth j 0),(nth j 1),(nth j 2),(nth
 j 3)] k)) fun j=>ax i ( aC d f [some (.int .i64 0),some (.int .i64 0),some e]) ( j [b,a,g,h] f)
theorem Nv {O:aL} (h:O 108=none):cc O funcs types 108 (bR Gb):= .bR h (aG Tryz.func108 (by kernel_rfl)) fun _ _ _ _ _=>by kernel_rfl
def Gc (c:CF) (n:Nat) (a:V) (b:S):bB:=
 ae (aN a) fun d=>ae (an .eql y3 d (.int .i64 0)) fun d=>jn (fun e f=>ae (ck 1 (nth e 0) (.int .i64 0)) fun g=>ae (aM f g) fun g=>ae (mK .i64 g) fun
 g=>ae (an .lss y3 g (.int .i64 119)) fun h=>ae (ay h false (some g)) fun i=>ae (ay h false (an .gtr y3 i (.int .i64 136))) fun i=>ae (bn h (.bool true)
 i) fun h=>jn (fun i j=>ae (an .sub y3 (nth i 0) (.int .i64 128)) fun k=>ae (an .lss y3 (nth i 0) (.int .i64 128)) fun l=>jn (fun m o=>ae (aN (nth m 1)) fun
 p=>ae (an .add y3 (nth m 2) (.int .i64 1)) fun q=>ae (an .lss y3 p q) fun p=>jn (fun q r=>jn (fun s t=>ae (an .lss y3 (nth s 0) (.int .i64 128)) fun u=>jn
 (fun v w=>af (au c true false (.fn 101 [] []) [(nth v 1)] w) fun w x=>ae (an .add y3 (nth v 2) (.int .i64 1)) fun y=>ae (gE 1 (nth v 0) none (some y) none) fun
 y=>af (au c true false (.fn 23 [] []) [w,y] x) fun w x=>ae (un .not w) fun w=>jn (fun y z=>ae (an .add y3 (nth y 1) (.int .i64 1)) fun A=>aC b z [some (nth
 y 0),some A,some (.int .i64 0)]) fun y=>ax w ( aC b x [some (.int .i64 0),some (.int .i64 0),some (.int .i64 2)]) ( y [(nth v 1),(nth v 2)] x)) fun v=>ax u ( ae
 (an .sub y3 (.int .i64 (-1)) (nth s 1)) fun u=>v [(nth s 2),u,(nth s 3)] t) ( v [(nth s 2),(nth s 1),(nth s 3)] t)) fun s=>bJ n (fun t u v=>ae (an .leq y3 (nth u
 0) (nth u 4)) fun w=>jn (fun x y=>jn (fun z A=>ae (an .add y3 (nth z 0) (.int .i64 1)) fun B=>t [B,(nth z 1),(nth z 2),(nth z 3),(nth z 4)] A) fun t=>ae (ck 1
 (nth x 3) (nth x 1)) fun z=>ae (aM y z) fun z=>ae (mK .i64 z) fun z=>ae (an .lss y3 (nth x 2) (.int .i64 128)) fun A=>jn (fun B D=>ae (an .gtr y3 (nth B
 0) (.int .i64 36028797018963967)) fun E=>jn (fun F G=>ae (an .mul y3 (.int .i64 256) (nth F 0)) fun H=>ae (an .add y3 H (nth F 1)) fun H=>t [(nth F 2),(nth F 3),
 H,(nth F 4),(nth F 5)] G) fun t=>ax E ( aC b D [some (.int .i64 0),some (.int .i64 0),some (.int .i64 2)]) ( t [(nth B 0),(nth B 1),(nth B 2),(nth B 3),(nth B 4),(nth
 B 5)] D)) fun t=>ax A ( ae (an .sub y3 (.int .i64 255) z) fun A=>t [(nth x 0),A,(nth x 1),(nth x 2),(nth x 3),(nth x 4)] y) ( t [(nth x 0),z,(nth x 1),(nth x 2),
 (nth x 3),(nth x 4)] y)) fun t=>ax w ( t [(nth u 2),(nth u 0),(nth u 1),(nth u 3),(nth u 4)] v) ( s [(nth u 1),(nth u 2),(nth u 3),(nth u 4)] v)) [(.int .i64 1),(nth q
 0),(.int .i64 0),(nth q 1),(nth q 2)] r) fun q=>ax p ( aC b o [some (.int .i64 0),some (.int .i64 0),some (.int .i64 3)]) ( q [(nth m 0),(nth m 1),(nth m 2)] o)) fun m
 =>ax l ( ae (an .sub y3 (.int .i64 127) (nth i 0)) fun l=>m [(nth i 0),(nth i 1),l] j) ( m [(nth i 0),(nth i 1),k] j)) fun i=>ax h ( aC b f [some (.int .i64 0),
 some (.int .i64 0),some (.int .i64 2)]) ( i [g,(nth e 0)] f)) fun e=>ax d ( aC b b [some (.int .i64 0),some (.int .i64 0),some (.int .i64 3)]) ( e [a] b)
theorem Nw {O:aL} (h:O 109=none):cc O funcs types 109 (cR Gc):= .cR h (aG Tryz.func109 (by kernel_rfl)) fun _ _ _ _=>by kernel_rfl
def Ge (c:CF) (n:Nat) (a b:V) (d:S):bB:=
 af (aq d (bM 43 a (aw d))) fun a e=>af (aq e (bM 43 b (aw e))) fun b e=>af (aq e (aT [(.bool false),.ah] 43 (aw e))) fun e f=>ae (aJ 1 a) fun a
 =>ae (aM f a) fun a=>af (au c false true (.fn 116 [] []) [(.bool false),a] f) fun a f=>af (aq f (aT [(.bool false),.ah] 43 (aw f))) fun f g=>af (aq
 g (aB 2 f a (aw g))) fun _ a=>ae (aJ 1 b) fun b=>ae (aM a b) fun b=>af (au c false true (.fn 116 [] []) [(.bool false),b] a) fun a b=>af (aq b (aT [(.bool
 false),.ah] 43 (aw b))) fun b g=>af (aq g (aB 2 b a (aw g))) fun _ a=>jn (fun g h=>ae (aD 2 h (nth g 0)) fun i=>af (aq h (aB 2 (nth g 1) i (aw h))) fun
 _ h=>aC d h [aD 2 h (nth g 1)]) fun g=>bJ n (fun h i j=>ae (aJ 1 (nth i 0)) fun k=>ae (aM j k) fun k=>ae (aN k) fun k=>ae (an .gtr y3 k (.int .i64
 0)) fun k=>jn (fun l m=>jn (fun o p=>h [(nth o 0),(nth o 1),(nth o 2)] p) fun h=>ae (aJ 1 (nth l 1)) fun o=>ae (aM m o) fun o=>ae (aN o) fun o=>ae (an .leq
 y3 o (.int .i64 2)) fun o=>ae (ay o true (aJ 1 (nth l 0))) fun p=>ae (ay o true (aM m p)) fun p=>ae (ay o true (aN p)) fun p=>ae (ay o true (an .leq
 y3 p (.int .i64 2))) fun p=>ae (bn o p (.bool false)) fun o=>jn (fun p q=>ae (aD 2 q (nth p 1)) fun r=>ae (aD 2 q (nth p 0)) fun s=>af (au c false true
 (.fn 113 [] []) [r,s] q) fun q r=>ae (cV 0 q) fun s=>ae (cV 1 q) fun q=>af (aq r (aT [(.bool false),.ah] 43 (aw r))) fun r t=>af (aq t (aT [(.bool
 false),.ah] 43 (aw t))) fun t u=>af (aq u (aB 2 r s (aw u))) fun _ r=>af (aq r (aB 2 t q (aw r))) fun _ q=>ae (aD 2 q (nth p 0)) fun r=>af (aq q
 (aB 2 (nth p 1) r (aw q))) fun _ q=>ae (aD 2 q t) fun r=>af (aq q (aB 2 (nth p 0) r (aw q))) fun _ q=>h [(nth p 0),(nth p 1),(nth p 2)] q) fun h=>ax o (
 ae (aJ 1 (nth l 1)) fun o=>ae (aM m o) fun o=>af (au c false false (.fn 161 [] []) [o] m) fun o p=>ae (aJ 1 (nth l 0)) fun q=>ae (aM p q) fun q=>af
 (au c false false (.fn 161 [] []) [q] p) fun p q=>jn (fun r s=>af (au c false true (.fn 67 [] []) [(nth r 0)] s) fun s t=>af (aq t (aB 2 (nth r 1) s (aw t)))
 fun _ s=>aC d s [aD 2 s (nth r 1)]) fun d=>bJ n (fun r s t=>ae (an .gtr y3 (nth s 0) (.int .i64 0)) fun u=>jn (fun v w=>jn (fun x y=>r [(nth x 0),(nth x 1),
 (nth x 2)] y) fun r=>ae (an .rem y3 (nth v 0) (nth v 1)) fun x=>r [x,(nth v 1),(nth v 2)] w) fun r=>ax u ( r [(nth s 1),(nth s 0),(nth s 2)] t) ( d [(nth s 1),(nth
 s 2)] t)) [p,o,(nth l 2)] q) ( h [(nth l 0),(nth l 1),(nth l 2)] m)) fun d=>ax k ( d [(nth i 0),(nth i 1),(nth i 2)] j) ( g [(nth i 1),(nth i 2)] j)) [b,f,e] a
theorem Ny {O:aL} (h:O 112=none):cc O funcs types 112 (bR Ge):= .bR h (aG Tryz.func112 (by kernel_rfl)) fun _ _ _ _ _=>by kernel_rfl
def Gh (c:CF) (n:Nat) (a:V) (b:S):bB:=
 af (aq b (bM 43 a (aw b))) fun a d=>ae (aJ 0 a) fun e=>ae (aM d e) fun e=>ae (ay e false (aJ 1 a)) fun f=>ae (ay e false (aM d f)) fun f=>ae
 (ay e false (aN f)) fun f=>ae (ay e false (an .neq y3 f (.int .i64 1))) fun f=>ae (bn e (.bool true) f) fun e=>jn (fun f g=>ae (aJ 1 (nth f 0)) fun f=>
 ae (aM g f) fun f=>ae (ck 1 f (.int .i64 0)) fun f=>ae (aM g f) fun f=>ae (an .eql y3 f (.int .i64 1)) fun f=>aC b g [some f]) fun f=>ax e ( aC b d
 [some (.bool false)]) ( f [a] d)
theorem NB {O:aL} (h:O 115=none):cc O funcs types 115 (cR Gh):= .cR h (aG Tryz.func115 (by kernel_rfl)) fun _ _ _ _=>by kernel_rfl
def Gk (c:CF) (n:Nat) (a b:V) (d:S):bB:=
 ae (aN a) fun e=>ae (aN b) fun f=>ae (an .lss y3 e f) fun e=>jn (fun f g=>ae (aN (nth f 0)) fun h=>ae (aN (nth f 1)) fun i=>ae (an .gtr y3
 h i) fun h=>jn (fun i j=>ae (aN (nth i 0)) fun k=>ae (an .sub y3 k (.int .i64 1)) fun k=>jn (fun _ l=>aC d l [some (.int .i64 0)]) fun l=>bJ n (fun m o p
 =>ae (an .geq y3 (nth o 0) (.int .i64 0)) fun q=>jn (fun r s=>jn (fun t u=>ae (an .sub y3 (nth t 0) (.int .i64 1)) fun v=>m [v,(nth t 1),(nth t 2)] u) fun m=>
 ae (ck 1 (nth r 1) (nth r 0)) fun t=>ae (aM s t) fun t=>ae (ck 1 (nth r 2) (nth r 0)) fun u=>ae (aM s u) fun u=>ae (an .lss y3 t u) fun t=>jn (fun u v
 =>ae (ck 1 (nth u 1) (nth u 0)) fun w=>ae (aM v w) fun w=>ae (ck 1 (nth u 2) (nth u 0)) fun x=>ae (aM v x) fun x=>ae (an .gtr y3 w x) fun w=>jn (fun
 x y=>m [(nth x 0),(nth x 1),(nth x 2)] y) fun m=>ax w ( aC d v [some (.int .i64 1)]) ( m [(nth u 0),(nth u 1),(nth u 2)] v)) fun m=>ax t ( aC d s [some (.int .i64
 (-1))]) ( m [(nth r 0),(nth r 1),(nth r 2)] s)) fun m=>ax q ( m [(nth o 0),(nth o 1),(nth o 2)] p) ( l [] p)) [k,(nth i 0),(nth i 1)] j) fun i=>ax h ( aC d g [some
 (.int .i64 1)]) ( i [(nth f 0),(nth f 1)] g)) fun f=>ax e ( aC d d [some (.int .i64 (-1))]) ( f [a,b] d)
theorem NF {O:aL} (h:O 118=none):cc O funcs types 118 (bR Gk):= .bR h (aG Tryz.func118 (by kernel_rfl)) fun _ _ _ _ _=>by kernel_rfl
def Gm (c:CF) (n:Nat) (a b:V) (d:S):bB:=
 jn (fun e f=>aC d f [some (nth e 0)]) fun e=>bJ n (fun f g h=>ae (aN (nth g 2)) fun i=>ae (an .lss y3 (nth g 1) i) fun i=>jn (fun j k=>jn (fun l m=>ae
 (an .add y3 (nth l 0) (.int .i64 1)) fun o=>f [(nth l 1),o,(nth l 2),(nth l 3),(nth l 4)] m) fun f=>ae (ck 1 (nth j 3) (nth j 2)) fun l=>ae (aM k l) fun l=>af
 (au c true false (.fn 163 [] []) [(nth j 4),(nth j 2)] k) fun k m=>ae (an .sub y3 l k) fun k=>ae (an .sub y3 k (nth j 0)) fun k=>ae (an .lss y3 k (.int .i64
 0)) fun l=>jn (fun o p=>af (aq p (dL 1 1 3 (bz 1 [(.int .i64 0)]) [(0,1,(nth o 1))] (aw p))) fun p q=>af (aq q (bT iV 3 (nth o 0) p (aw q))) fun p q=>f
 [(nth o 2),(nth o 3),(nth o 4),(nth o 5),p] q) fun f=>ax l ( ae (an .add y3 k (.int .i64 1000000000)) fun l=>f [(nth j 1),l,(nth j 2),(.int .i64 1),(nth j 3),(nth
 j 4)] m) ( f [(nth j 1),k,(nth j 2),(.int .i64 0),(nth j 3),(nth j 4)] m)) fun f=>ax i ( f [(nth g 0),(nth g 4),(nth g 1),(nth g 2),(nth g 3)] h) ( e [(nth g 4)] h)) [(.int .i64
 0),(.int .i64 0),a,b,.ah] d
theorem NG {O:aL} (h:O 119=none):cc O funcs types 119 (bR Gm):= .bR h (aG Tryz.func119 (by kernel_rfl)) fun _ _ _ _ _=>by kernel_rfl
def Gq (c:CF) (n:Nat) (a:V) (b:S):bB:=
 af (aq b (aT [(.bool false),.ah,(.bool false),.ah] 45 (aw b))) fun d e=>af (au c false true (.fn 9 [] []) [a,(.int .i64 41)] e) fun e f=>ae (an .sub
 y3 e (.int .i64 20)) fun e=>af (aq f (dL 1 6 3 (bz 6 [(.int .i64 0)]) [(0,1,(.int .i64 1)),(1,1,(.int .i64 1)),(2,1,(.int .i64 2)),(3,1,(.int .i64 3)),(4,1,
 (.int .i64 5)),(5,1,(.int .i64 8))] (aw f))) fun f g=>ae (an .quo y3 a (.int .i64 41)) fun a=>af (au c false true (.fn 9 [] []) [a,(.int .i64 6)] g) fun a g=>ae
 (ck 1 f a) fun a=>ae (aM g a) fun a=>af (au c false true (.fn 28 [] []) [e,a] g) fun a e=>af (aq e (aB 4 d a (aw e))) fun _ a=>aC b a [aD 4 a d]
theorem NJ {O:aL} (h:O 129=none):cc O funcs types 129 (cR Gq):= .cR h (aG Tryz.func129 (by kernel_rfl)) fun _ _ _ _=>by kernel_rfl
def N4 (c:CF) (n:Nat) (a b:V) (d:S):bB:=
 af (aq d (bM 45 a (aw d))) fun a e=>af (aq e (aT [(.bool false),.ah,(.bool false),.ah] 45 (aw e))) fun e f=>af (aq f (aT [(.bool false),.ah,(.bool
 false),.ah] 45 (aw f))) fun f g=>ai (aj none g (ar (some (ag.aF a)) g (aD 4 g a))) fun g h i=>ai (aj none h (ar (some (ag.aF a)) h (aD 4 h a)))
 fun a h j=>ai (aj none h (dD (some []) (some []) h (aT [(.bool false),.ah,(.bool false),.ah] 45 (aw h)))) fun h k l=>ai (aj none k (dD (some []) (some [])
 k (aT [(.bool false),.ah,(.bool false),.ah] 45 (aw k)))) fun k m o=>ai (aj none m (dD (some (ag.aF h)) (some (ag.aF h)) m (aB 4 h g (aw m)))) fun _
 g m=>ai (aj none g (dD (some (ag.aF k)) (some (ag.aF k)) g (aB 4 k a (aw g)))) fun _ a g=>bU (bE [0,0,0,0,13,31] [i,j,l,o,m,g]) <| ae (aN
 b) fun g=>jn (fun i j=>ai (aj none j (ar (some (ag.aF (nth i 0))) j (aD 4 j (nth i 0)))) fun j l m=>ai (aj none l (ar (some (ag.aF (nth i 1))) l (aD
 4 l (nth i 1)))) fun l o p=>ai (aj none o (dD (some (ag.aF (nth i 2))) (some (ag.aF (nth i 2))) o (aB 4 (nth i 2) j (aw o)))) fun _ j o=>ai (aj none j
 (dD (some (ag.aF (nth i 3))) (some (ag.aF (nth i 3))) j (aB 4 (nth i 3) l (aw j)))) fun _ j l=>bU (bE [0,0,1,7] [m,p,o,l]) <| aC d j [aD 4 j (nth i
 2),aD 4 j (nth i 3)]) fun d=>bJ n (fun i j l=>ae (an .lss y3 (nth j 0) (nth j 1)) fun m=>jn (fun o p=>jn (fun q r=>ae (an .add y3 (nth q 0) (.int .i64 1)) fun
 s=>i [s,(nth q 1),(nth q 2),(nth q 3),(nth q 4),(nth q 5),(nth q 6)] r) fun i=>ae (ck 4 (nth o 2) (nth o 0)) fun q=>ae (aD 4 p q) fun q=>af (aq p (aT [(.bool
 false),.ah,(.bool false),.ah] 45 (aw p))) fun p r=>af (aq r (aB 4 p q (aw r))) fun _ q=>ae (aD 4 q p) fun r=>ae (aD 4 q (nth o 3)) fun s=>af (au
 c false false (.fn 147 [] []) [r,s] q) fun q r=>ae (an .lss y3 q (.int .i64 0)) fun q=>jn (fun s t=>ae (aD 4 t (nth s 0)) fun u=>ae (aD 4 t (nth s 5)) fun v=>
 af (au c false false (.fn 147 [] []) [u,v] t) fun t u=>ae (an .gtr y3 t (.int .i64 0)) fun t=>jn (fun v w=>i [(nth v 0),(nth v 1),(nth v 2),(nth v 3),(nth v 4),
 (nth v 5),(nth v 6)] w) fun i=>ax t ( ae (aD 4 u (nth s 0)) fun t=>af (aq u (aB 4 (nth s 5) t (aw u))) fun _ t=>i [(nth s 1),(nth s 2),(nth s 3),(nth s 4),
 (nth s 5),(nth s 6),(nth s 7)] t) ( i [(nth s 1),(nth s 2),(nth s 3),(nth s 4),(nth s 5),(nth s 6),(nth s 7)] u)) fun i=>ax q ( ae (aD 4 r p) fun q=>af (aq r
 (aB 4 (nth o 3) q (aw r))) fun _ q=>i [p,(nth o 0),(nth o 1),(nth o 2),(nth o 3),(nth o 4),(nth o 5),(nth o 6)] q) ( i [p,(nth o 0),(nth o 1),(nth o 2),(nth o 3),(nth
 o 4),(nth o 5),(nth o 6)] r)) fun i=>ax m ( i [(nth j 0),(nth j 1),(nth j 2),(nth j 3),(nth j 4),(nth j 5),(nth j 6)] l) ( d [(nth j 3),(nth j 4),(nth j 5),(nth j 6)]
 l)) [(.int .i64 0),g,b,h,k,e,f] a
theorem UT {O:aL} (h:O 132=none):cc O funcs types 132 (bR N4):= .bR h (aG Tryz.func132 (by kernel_rfl)) fun _ _ _ _ _=>by kernel_rfl
def N5 (c:CF) (n:Nat) (a b:V) (d:S):bB:=
 af (aq d (bM 43 a (aw d))) fun a e=>af (aq e (bM 43 b (aw e))) fun b e=>ae (aJ 0 a) fun f=>ae (aM e f) fun f=>ae (aJ 0 b) fun g=>ae (aM e
 g) fun g=>ae (an .eql (Tr.get types 4) f g) fun f=>ae (ay f true (aJ 1 a)) fun a=>ae (ay f true (aM e a)) fun a=>ae (ay f true (aJ 1 b)) fun b=>ae
 (ay f true (aM e b)) fun b=>af (fT f true (au c false false (.fn 134 [] []) [a,b] e) e) fun a b=>ae (bn f a (.bool false)) fun a=>aC d b [some a]
theorem UU {O:aL} (h:O 133=none):cc O funcs types 133 (bR N5):= .bR h (aG Tryz.func133 (by kernel_rfl)) fun _ _ _ _ _=>by kernel_rfl
def N8 (c:CF) (n:Nat) (a b d:V) (e:S):bB:=
 af (aq e (bM 82 a (aw e))) fun a f=>af (aq f (bM 82 b (aw f))) fun b f=>ae (aJ 1 d) fun g=>ae (aM f g) fun g=>ae (aD 2 f a) fun a=>af (au
 c true false g [a] f) fun a f=>ae (aJ 1 d) fun d=>ae (aM f d) fun d=>ae (aD 2 f b) fun b=>af (au c true false d [b] f) fun b d=>af (au c true false
 (.fn 137 [] []) [a,b] d) fun a b=>aC e b [some a]
theorem UY {O:aL} (h:O 136=none):cc O funcs types 136 (pR N8):= .pR h (aG Tryz.func136 (by kernel_rfl)) fun _ _ _ _ _ _=>by kernel_rfl
def N9 (c:CF) (n:Nat) (a b:V) (d:S):bB:=
 af (aq d (aT [(.int .i64 0),(.int .i64 0)] 82 (aw d))) fun e f=>ae (aN a) fun g=>ae (an .lss y3 g (.int .i64 1)) fun g=>jn (fun h i=>ae (ck 2 (nth h
 1) (.int .i64 0)) fun j=>ae (aD 2 i j) fun j=>af (aq i (aT [(.int .i64 0),(.int .i64 0)] 82 (aw i))) fun i k=>af (aq k (aB 2 i j (aw k))) fun _ j=>jn (fun
 k l=>ae (aD 2 l (nth k 0)) fun m=>af (aq l (aB 2 (nth k 1) m (aw l))) fun _ l=>aC d l [aD 2 l (nth k 1)]) fun d=>bJ n (fun k l m=>ae (aN (nth l 2))
 fun o=>ae (an .lss y3 (nth l 0) o) fun o=>jn (fun p q=>jn (fun r s=>ae (an .add y3 (nth r 0) (.int .i64 1)) fun t=>k [t,(nth r 1),(nth r 2),(nth r 3),(nth r
 4)] s) fun k=>ae (ck 2 (nth p 2) (nth p 0)) fun r=>ae (aD 2 q r) fun r=>ae (aD 2 q (nth p 3)) fun s=>af (au c true false (nth p 1) [r,s] q) fun q r=>ae
 (an .gtr y3 q (.int .i64 0)) fun q=>jn (fun s t=>k [(nth s 0),(nth s 1),(nth s 2),(nth s 3),(nth s 4)] t) fun k=>ax q ( ae (ck 2 (nth p 2) (nth p 0)) fun q=>ae
 (aD 2 r q) fun q=>af (aq r (aB 2 (nth p 3) q (aw r))) fun _ q=>k [(nth p 0),(nth p 1),(nth p 2),(nth p 3),(nth p 4)] q) ( k [(nth p 0),(nth p 1),(nth p 2),(nth p
 3),(nth p 4)] r)) fun k=>ax o ( k [(nth l 0),(nth l 1),(nth l 2),(nth l 3),(nth l 4)] m) ( d [(nth l 3),(nth l 4)] m)) [(.int .i64 1),(nth h 0),(nth h 1),i,(nth h 2)]
 j) fun d=>ax g ( none) ( d [b,a,e] f)
theorem UZ {O:aL} (h:O 138=none):cc O funcs types 138 (bR N9):= .bR h (aG Tryz.func138 (by kernel_rfl)) fun _ _ _ _ _=>by kernel_rfl
def Oc (c:CF) (n:Nat) (a b:V) (d:S):bB:=
 af (aq d (bM 45 a (aw d))) fun a e=>af (aq e (bM 45 b (aw e))) fun b e=>af (aq e (aT [(.bool false),.ah,(.bool false),.ah] 45 (aw e))) fun e f=>
 jn (fun g h=>ai (aj none h (ar (some (ag.aF (nth g 0))) h (aD 4 h (nth g 0)))) fun h i j=>ai (aj none i (aH c (.fn 179 [] []) [h] i)) fun h i k=>ai (aj
 none i (ar (some (ag.aF (nth g 1))) i (aD 4 i (nth g 1)))) fun i l m=>ai (aj none l (aH c (.fn 179 [] []) [i] l)) fun i l o=>ai (aj none l (dD (some [])
 (some []) l (aT [(.bool false),.ah] 43 (aw l)))) fun l p q=>ai (aj none p (dD (some []) (some []) p (aT [(.bool false),.ah] 43 (aw p)))) fun p r s=>ai (aj
 none r (dD (some (ag.aF l)) (some (ag.aF l)) r (aB 2 l h (aw r)))) fun _ h r=>ai (aj none h (dD (some (ag.aF p)) (some (ag.aF p)) h (aB 2 p i (aw
 h)))) fun _ h i=>bU (bE [0,1,0,7,0,0,63,127] [j,k,m,o,q,s,r,i]) <| ai (aj none h (ar (some []) h (aJ 0 (nth g 0)))) fun h i j=>ai (aj none i (ar
 (some (ag.aF h)) i (aD 2 i h))) fun h i k=>ai (aj none i (ar (some (ag.aF p)) i (aD 2 i p))) fun i m o=>ai (aj none m (aH c (.fn 181 [] []) [h,i]
 m)) fun h i m=>ai (aj none i (ar (some []) i (aJ 0 (nth g 1)))) fun i q r=>ai (aj none q (ar (some (ag.aF i)) q (aD 2 q i))) fun i q s=>ai (aj none
 q (ar (some (ag.aF l)) q (aD 2 q l))) fun q t u=>ai (aj none t (aH c (.fn 181 [] []) [i,q] t)) fun i q t=>ai (aj none q (aH c (.fn 178 [] []) [h,i] q))
 fun h i q=>ai (aj none i (ar (some (ag.aF l)) i (aD 2 i l))) fun i l v=>ai (aj none l (ar (some (ag.aF p)) l (aD 2 l p))) fun l p w=>ai (aj
 none p (aH c (.fn 181 [] []) [i,l] p)) fun i l p=>ai (aj none l (aH c (.fn 180 [] []) [h,i] l)) fun h i l=>ai (aj none i (dD (some (ag.aF (nth g 2))) (some
 (ag.aF (nth g 2))) i (aB 4 (nth g 2) h (aw i)))) fun _ h i=>bU (bE [0,1,0,7,0,16,0,127,255,0,0,2047,4095,8191] [j,k,o,m,r,s,u,t,q,v,w,p,l,
 i]) <| aC d h [aD 4 h (nth g 2)]) fun g=>ae (aJ 2 a) fun h=>ae (aJ 1 h) fun h=>ae (aM f h) fun h=>ae (aN h) fun h=>ae (an .eql y3 h (.int .i64 0))
 fun h=>ae (ay h true (aJ 2 b)) fun i=>ae (ay h true (aJ 1 i)) fun i=>ae (ay h true (aM f i)) fun i=>ae (ay h true (aN i)) fun i=>ae (ay h true
 (an .eql y3 i (.int .i64 0))) fun i=>ae (bn h i (.bool false)) fun h=>jn (fun i j=>g [(nth i 0),(nth i 1),(nth i 2)] j) fun g=>ax h ( ae (aJ 0 a) fun h=>ae
 (aD 2 f h) fun h=>ae (aJ 0 b) fun i=>ae (aD 2 f i) fun i=>af (au c false true (.fn 178 [] []) [h,i] f) fun h i=>ae (aI [(.bool false),.ah,(.bool false),.ah]
 [(0,2,h)]) fun h=>af (aq i (aB 4 e h (aw i))) fun _ h=>aC d h [aD 4 h e]) ( ae (aJ 0 a) fun h=>ae (aJ 1 h) fun h=>ae (aM f h) fun h=>ae (aN h)
 fun h=>ae (an .eql y3 h (.int .i64 0)) fun h=>jn (fun i j=>g [(nth i 0),(nth i 1),(nth i 2)] j) fun g=>ax h ( ae (aD 4 f b) fun h=>af (aq f (aB 4 e h
 (aw f))) fun _ h=>aC d h [aD 4 h e]) ( ae (aJ 0 b) fun h=>ae (aJ 1 h) fun h=>ae (aM f h) fun h=>ae (aN h) fun h=>ae (an .eql y3 h (.int .i64 0))
 fun h=>jn (fun i j=>g [(nth i 0),(nth i 1),(nth i 2)] j) fun g=>ax h ( ae (aD 4 f a) fun h=>af (aq f (aB 4 e h (aw f))) fun _ h=>aC d h [aD 4 h e]) ( g
 [a,b,e] f)))
theorem U2 {O:aL} (h:O 141=none):cc O funcs types 141 (bR Oc):= .bR h (aG Tryz.func141 (by kernel_rfl)) fun _ _ _ _ _=>by kernel_rfl
def Oh (c:CF) (n:Nat) (a b d:V) (e:S):bB:=
 af (aq e (bM 203 a (aw e))) fun a f=>ae (aJ 0 a) fun g=>ae (aM f g) fun g=>ae (aJ 0 b) fun h=>ae (aD 8 f h) fun h=>af (au c true false g [h]
 f) fun f g=>ae (aJ 0 a) fun h=>ae (aM g h) fun h=>ae (aJ 8 d) fun i=>ae (aD 8 g i) fun i=>af (au c true false h [i] g) fun g h=>af (au c true
 false (.fn 147 [] []) [f,g] h) fun f g=>ae (an .gtr y3 f (.int .i64 0)) fun f=>ae (ay f false (aJ 0 a)) fun h=>ae (ay f false (aM g h)) fun h=>ae (ay
 f false (aJ 0 d)) fun d=>ae (ay f false (aD 8 g d)) fun d=>af (fT f false (au c true false h [d] g) g) fun d g=>ae (ay f false (aJ 0 a)) fun a=>ae (ay
 f false (aM g a)) fun a=>ae (ay f false (aJ 8 b)) fun b=>ae (ay f false (aD 8 g b)) fun b=>af (fT f false (au c true false a [b] g) g) fun a b=>af (fT
 f false (au c true false (.fn 147 [] []) [d,a] b) b) fun a b=>ae (ay f false (an .gtr y3 a (.int .i64 0))) fun a=>ae (bn f (.bool true) a) fun a=>aC e b [some
 a]
theorem U7 {O:aL} (h:O 146=none):cc O funcs types 146 (pR Oh):= .pR h (aG Tryz.func146 (by kernel_rfl)) fun _ _ _ _ _ _=>by kernel_rfl
def Gs (c:CF) (n:Nat) (a:V) (b:S):bB:=
 af (aq b (bM 43 a (aw b))) fun a d=>jn (fun _ e=>aC b e [some (.int .i64 1)]) fun e=>ae (aJ 0 a) fun f=>ae (aM d f) fun f=>jn (fun _ g=>e [] g) fun e
 =>ax f ( aC b d [some (.int .i64 (-1))]) ( ae (aJ 1 a) fun a=>ae (aM d a) fun a=>ae (aN a) fun a=>ae (an .eql y3 a (.int .i64 0)) fun a=>jn (fun _ f
 =>e [] f) fun e=>ax a ( aC b d [some (.int .i64 0)]) ( e [] d))
theorem NL {O:aL} (h:O 154=none):cc O funcs types 154 (cR Gs):= .cR h (aG Tryz.func154 (by kernel_rfl)) fun _ _ _ _=>by kernel_rfl
def Gx (c:CF) (n:Nat) (a:V) (b:S):bB:=
 af (au c false false (.fn 163 [] []) [a,(.int .i64 1)] b) fun d e=>ae (an .mul y3 d (.int .i64 1000000000)) fun d=>af (au c false false (.fn 163 [] []) [a,(.int .i64
 0)] e) fun a e=>ae (an .add y3 d a) fun a=>aC b e [some a]
theorem NQ {O:aL} (h:O 161=none):cc O funcs types 161 (cR Gx):= .cR h (aG Tryz.func161 (by kernel_rfl)) fun _ _ _ _=>by kernel_rfl
def Ol (c:CF) (n:Nat) (a:V) (b:S):bB:=
 af (aq b (bM 45 a (aw b))) fun a d=>ae (aJ 0 a) fun a=>ae (aD 2 d a) fun a=>af (au c false false (.fn 154 [] []) [a] d) fun a d=>aC b d [some a]
theorem Vd {O:aL} (h:O 177=none):cc O funcs types 177 (cR Ol):= .cR h (aG Tryz.func177 (by kernel_rfl)) fun _ _ _ _=>by kernel_rfl
def Oq (c:CF) (n:Nat) (a b:V) (d:S):bB:=
 af (aq d (bM 43 a (aw d))) fun a e=>af (aq e (bM 43 b (aw e))) fun b e=>af (aq e (aT [(.bool false),.ah] 43 (aw e))) fun e f=>ae (aJ 1 a) fun g
 =>ae (aM f g) fun g=>ae (aJ 1 b) fun h=>ae (aM f h) fun h=>ae (aN g) fun i=>ae (an .eql y3 i (.int .i64 1)) fun i=>ae (ay i true (some h)) fun
 j=>ae (ay i true (aN j)) fun j=>ae (ay i true (an .eql y3 j (.int .i64 1))) fun j=>ae (bn i j (.bool false)) fun i=>jn (fun j k=>ae (aN (nth j 0))
 fun l=>ae (aN (nth j 1)) fun m=>ae (an .add y3 l m) fun l=>af (aq k (bQ types 22 l l (aw k))) fun k l=>ae (aN (nth j 0)) fun m=>jn (fun o p=>
 ae (aJ 0 (nth o 0)) fun q=>ae (aM p q) fun q=>ae (aJ 0 (nth o 1)) fun r=>ae (aM p r) fun r=>ae (an .neq (Tr.get types 4) q r) fun q=>af (au c false
 true (.fn 192 [] []) [q,(nth o 2)] p) fun p q=>af (aq q (aB 2 (nth o 3) p (aw q))) fun _ p=>aC d p [aD 2 p (nth o 3)]) fun o=>bJ n (fun p q r=>ae (an .lss
 y3 (nth q 0) (nth q 1)) fun s=>jn (fun t u=>jn (fun v w=>ae (an .add y3 (nth v 0) (.int .i64 1)) fun x=>p [x,(nth v 1),(nth v 2),(nth v 3),(nth v 4),(nth v 5),(nth
 v 6),(nth v 7)] w) fun p=>ae (ck 1 (nth t 2) (nth t 0)) fun v=>ae (aM u v) fun v=>ae (aN (nth t 3)) fun w=>jn (fun x y=>ae (aN (nth x 5)) fun z=>ae
 (an .add y3 (nth x 0) z) fun z=>ae (ck 1 (nth x 8) z) fun z=>af (aq y (aB 1 z (nth x 1) (aw y))) fun _ y=>p [(nth x 2),(nth x 3),(nth x 4),(nth x 5),(nth x 6),
 (nth x 7),(nth x 8),(nth x 9)] y) fun p=>bJ n (fun x y z=>ae (an .lss y3 (nth y 0) (nth y 1)) fun A=>jn (fun B D=>jn (fun E F=>ae (an .add y3 (nth E 0) (.int .i64
 1)) fun G=>x [G,(nth E 1),(nth E 2),(nth E 3),(nth E 4),(nth E 5),(nth E 6),(nth E 7),(nth E 8),(nth E 9),(nth E 10),(nth E 11),(nth E 12),(nth E 13)] F) fun x=>ae
 (ck 1 (nth B 3) (nth B 1)) fun E=>ae (aM D E) fun E=>ae (an .add y3 (nth B 5) (nth B 1)) fun F=>ae (ck 1 (nth B 12) F) fun F=>ae (aM D F) fun F=>ae (an .mul
 y3 (nth B 4) E) fun E=>ae (an .add y3 F E) fun E=>ae (an .add y3 E (nth B 0)) fun E=>ae (an .quo y3 E (.int .i64 1000000000)) fun F=>ae (an .add y3 (nth
 B 5) (nth B 1)) fun G=>ae (an .mul y3 F (.int .i64 1000000000)) fun H=>ae (an .sub y3 E H) fun E=>ae (ck 1 (nth B 12) G) fun G=>af (aq D (aB 1 G E (aw
 D))) fun _ D=>x [(nth B 1),(nth B 2),(nth B 3),(nth B 4),(nth B 5),F,(nth B 6),(nth B 7),(nth B 8),(nth B 9),(nth B 10),(nth B 11),(nth B 12),(nth B 13)] D) fun x=>
 ax A ( x [(nth y 5),(nth y 0),(nth y 1),(nth y 2),(nth y 3),(nth y 4),(nth y 6),(nth y 7),(nth y 8),(nth y 9),(nth y 10),(nth y 11),(nth y 12),(nth y 13)] z) ( p [(nth
 y 4),(nth y 5),(nth y 6),(nth y 7),(nth y 8),(nth y 9),(nth y 10),(nth y 11),(nth y 12),(nth y 13)] z)) [(.int .i64 0),w,(nth t 3),v,(nth t 0),(.int .i64 0),(nth t 0),
 (nth t 1),(nth t 2),(nth t 3),(nth t 4),(nth t 5),(nth t 6),(nth t 7)] u) fun p=>ax s ( p [(nth q 0),(nth q 1),(nth q 2),(nth q 3),(nth q 4),(nth q 5),(nth q 6),(nth
 q 7)] r) ( o [(nth q 4),(nth q 5),(nth q 6),(nth q 7)] r)) [(.int .i64 0),m,(nth j 0),(nth j 1),(nth j 2),(nth j 3),k,(nth j 4)] l) fun j=>ax i ( ai (aj none f (ar
 (some []) f (aJ 0 a))) fun i k l=>ai (aj none k (ar (some (ag.aF i)) k (aM k i))) fun i k m=>ai (aj none k (ar (some []) k (aJ 0 b))) fun k o p=>ai
 (aj none o (ar (some (ag.aF k)) o (aM o k))) fun k o q=>ai (aj none o (ar (some []) o (an .neq (Tr.get types 4) i k))) fun i k o=>ai (aj none k (bk
 k g)) fun k r s=>ai (aj none r (ar (some []) r (ck 1 k (.int .i64 0)))) fun k r t=>ai (aj none r (ar (some (ag.aF k)) r (aM r k))) fun k r u=>ai (aj
 none r (ar (some (ag.aF k)) r (mK .u64 k))) fun k r v=>ai (aj none r (bk r h)) fun r w x=>ai (aj none w (ar (some []) w (ck 1 r (.int .i64 0)))) fun r
 w y=>ai (aj none w (ar (some (ag.aF r)) w (aM w r))) fun r w z=>ai (aj none w (ar (some (ag.aF r)) w (mK .u64 r))) fun r w A=>ai (aj none w
 (ar (some []) w (an .mul (Tr.get types 226) k r))) fun k r w=>ai (aj none r (aH c (.fn 194 [] []) [i,k] r)) fun i k r=>ai (aj none k (dD (some (ag.aF e))
 (some (ag.aF e)) k (aB 2 e i (aw k)))) fun _ i k=>bU (bE [0,1,0,4,15,0,32,96,224,0,512,1536,3584,8160,16383,32767] [l,m,p,q,o,s,t,u,v,x,y,
 z,A,w,r,k]) <| aC d i [aD 2 i e]) ( j [g,h,a,b,e] f)
theorem Vh {O:aL} (h:O 181=none):cc O funcs types 181 (bR Oq):= .bR h (aG Tryz.func181 (by kernel_rfl)) fun _ _ _ _ _=>by kernel_rfl
def GB (c:CF) (n:Nat) (a b:V) (d:S):bB:=
 af (au c false false (.fn 217 [] []) [a,b] d) fun a b=>ae (an .geq y3 a (.int .i64 0)) fun a=>aC d b [some a]
theorem NU {O:aL} (h:O 190=none):cc O funcs types 190 (bR GB):= .bR h (aG Tryz.func190 (by kernel_rfl)) fun _ _ _ _ _=>by kernel_rfl
def GC (c:CF) (n:Nat) (a:V) (b:S):bB:=
 ae (an .lss y3 a (.int .i64 0)) fun d=>ae (ay d false (some a)) fun a=>ae (ay d false (an .geq y3 a (.int .i64 1000000000))) fun a=>ae (bn d (.bool true)
 a) fun a=>aC b b [some a]
theorem NV {O:aL} (h:O 191=none):cc O funcs types 191 (cR GC):= .cR h (aG Tryz.func191 (by kernel_rfl)) fun _ _ _ _=>by kernel_rfl
def GD (c:CF) (n:Nat) (a b:V) (d:S):bB:=
 af (aq d (aT [(.bool false),.ah] 43 (aw d))) fun e f=>ae (aN b) fun g=>jn (fun h i=>ae (an .eql y3 (nth h 2) (.int .i64 0)) fun j=>jn (fun k l=>ae
 (gE 1 (nth k 1) none (some (nth k 2)) (some (nth k 2))) fun m=>ae (aI [(.bool false),.ah] [(0,1,(nth k 0)),(1,1,m)]) fun m=>af (aq l (aB 2 (nth k 3) m (aw
 l))) fun _ l=>aC d l [aD 2 l (nth k 3)]) fun k=>ax j ( ae (aI [(.bool false),.ah] []) fun j=>af (aq i (aB 2 (nth h 3) j (aw i))) fun _ j=>aC d j [aD
 2 j (nth h 3)]) ( k [(nth h 0),(nth h 1),(nth h 2),(nth h 3)] i)) fun d=>bJ n (fun h i j=>ae (an .gtr y3 (nth i 2) (.int .i64 0)) fun k=>ae (ay k true (some (nth
 i 1))) fun l=>ae (ay k true (some (nth i 2))) fun m=>ae (ay k true (an .sub y3 m (.int .i64 1))) fun m=>ae (ay k true (ck 1 l m)) fun l=>ae (ay k true
 (aM j l)) fun l=>ae (ay k true (an .eql y3 l (.int .i64 0))) fun l=>ae (bn k l (.bool false)) fun k=>jn (fun l m=>jn (fun o p=>h [(nth o 0),(nth o 1),(nth
 o 2),(nth o 3)] p) fun h=>ae (an .sub y3 (nth l 0) (.int .i64 1)) fun o=>h [(nth l 1),(nth l 2),o,(nth l 3)] m) fun h=>ax k ( h [(nth i 2),(nth i 0),(nth i 1),(nth
 i 3)] j) ( d [(nth i 0),(nth i 1),(nth i 2),(nth i 3)] j)) [a,b,g,e] f
theorem NW {O:aL} (h:O 192=none):cc O funcs types 192 (bR GD):= .bR h (aG Tryz.func192 (by kernel_rfl)) fun _ _ _ _ _=>by kernel_rfl
def GF (c:CF) (n:Nat) (a:V) (b:S):bB:=
 ae (aN a) fun d=>jn (fun _ e=>aC b e [some (.int .i64 0),some (.bool false)]) fun e=>ae (an .eql y3 d (.int .i64 0)) fun f=>jn (fun _ g=>e [] g) fun e=>ax
 f ( aC b b [some (.int .i64 0),some (.bool true)]) ( ae (an .eql y3 d (.int .i64 1)) fun f=>jn (fun _ g=>e [] g) fun e=>ax f ( ae (ck 1 a (.int .i64 0)) fun f=>
 ae (aM b f) fun f=>aC b b [some f,some (.bool true)]) ( ae (an .eql y3 d (.int .i64 2)) fun d=>jn (fun _ f=>e [] f) fun e=>ax d ( ae (ck 1 a (.int .i64 1))
 fun d=>ae (aM b d) fun d=>ae (an .mul y3 d (.int .i64 1000000000)) fun d=>ae (ck 1 a (.int .i64 0)) fun a=>ae (aM b a) fun a=>ae (an .add y3 d a) fun
 a=>aC b b [some a,some (.bool true)]) ( e [] b)))
theorem NX {O:aL} (h:O 193=none):cc O funcs types 193 (cR GF):= .cR h (aG Tryz.func193 (by kernel_rfl)) fun _ _ _ _=>by kernel_rfl
def GG (c:CF) (n:Nat) (a b:V) (d:S):bB:=
 af (aq d (aT [(.bool false),.ah] 43 (aw d))) fun e f=>jn (fun g h=>ae (an .rem (Tr.get types 226) (nth g 1) (.int .u64 1000000000)) fun i=>ae (mK .i64 i)
 fun i=>ae (an .quo (Tr.get types 226) (nth g 1) (.int .u64 1000000000)) fun j=>ae (an .rem (Tr.get types 226) j (.int .u64 1000000000)) fun j=>ae (mK .i64 j) fun
 j=>ae (an .quo (Tr.get types 226) (nth g 1) (.int .u64 1000000000)) fun k=>ae (an .quo (Tr.get types 226) k (.int .u64 1000000000)) fun k=>ae (mK .i64 k) fun k=>
 af (aq h (dL 1 3 3 (bz 3 [(.int .i64 0)]) [(0,1,i),(1,1,j),(2,1,k)] (aw h))) fun h i=>ae (aI [(.bool false),.ah] [(0,1,(nth g 0)),(1,1,h)]) fun h=>
 af (aq i (aB 2 (nth g 2) h (aw i))) fun _ h=>aC d h [aD 2 h (nth g 2)]) fun g=>ae (an .eql (Tr.get types 226) b (.int .u64 0)) fun h=>jn (fun i j=>g [(nth i
 0),(nth i 1),(nth i 2)] j) fun g=>ax h ( ae (aI [(.bool false),.ah] []) fun h=>af (aq f (aB 2 e h (aw f))) fun _ h=>aC d h [aD 2 h e]) ( ae (an .lss
 (Tr.get types 226) b (.int .u64 1000000000)) fun h=>jn (fun i j=>g [(nth i 0),(nth i 1),(nth i 2)] j) fun g=>ax h ( ae (mK .i64 b) fun h=>af (aq f (dL 1 1 3
 (bz 1 [(.int .i64 0)]) [(0,1,h)] (aw f))) fun h i=>ae (aI [(.bool false),.ah] [(0,1,a),(1,1,h)]) fun h=>af (aq i (aB 2 e h (aw i))) fun _ h=>aC d
 h [aD 2 h e]) ( ae (an .lss (Tr.get types 226) b (.int .u64 1000000000000000000)) fun h=>jn (fun i j=>g [(nth i 0),(nth i 1),(nth i 2)] j) fun g=>ax h ( ae (an .rem
 (Tr.get types 226) b (.int .u64 1000000000)) fun h=>ae (mK .i64 h) fun h=>ae (an .quo (Tr.get types 226) b (.int .u64 1000000000)) fun i=>ae (mK .i64 i) fun i=>
 af (aq f (dL 1 2 3 (bz 2 [(.int .i64 0)]) [(0,1,h),(1,1,i)] (aw f))) fun h i=>ae (aI [(.bool false),.ah] [(0,1,a),(1,1,h)]) fun h=>af (aq i (aB
 2 e h (aw i))) fun _ h=>aC d h [aD 2 h e]) ( g [a,b,e] f)))
theorem NY {O:aL} (h:O 194=none):cc O funcs types 194 (bR GG):= .bR h (aG Tryz.func194 (by kernel_rfl)) fun _ _ _ _ _=>by kernel_rfl
def GI (c:CF) (n:Nat) (a b:V) (d:S):bB:=
 af (au c false true (.fn 116 [] []) [(.bool false),a] d) fun a e=>af (au c false true (.fn 67 [] []) [b] e) fun b e=>af (au c false true (.fn 68 [] []) [a,b]
 e) fun a b=>af (aq b (aT [(.bool false),.ah] 43 (aw b))) fun b e=>af (aq e (aB 2 b a (aw e))) fun _ a=>ae (aJ 1 b) fun b=>ae (aM a b) fun b=>aC
 d a [some b]
theorem N0 {O:aL} (h:O 196=none):cc O funcs types 196 (bR GI):= .bR h (aG Tryz.func196 (by kernel_rfl)) fun _ _ _ _ _=>by kernel_rfl
def Oz (c:CF) (n:Nat) (a b:V) (d:S):bB:=
 ae (aN a) fun e=>ae (aN b) fun f=>ae (an .lss y3 e f) fun e=>jn (fun f g=>ae (aN (nth f 1)) fun h=>ae (an .add y3 h (.int .i64 1)) fun h=>af
 (aq g (bQ types 22 h h (aw g))) fun g h=>ae (aN (nth f 1)) fun i=>jn (fun j k=>ae (aN (nth j 0)) fun l=>ae (ck 1 (nth j 2) l) fun l=>af (aq k
 (aB 1 l (nth j 1) (aw k))) fun _ k=>aC d k [some (nth j 2)]) fun j=>bJ n (fun k l m=>ae (an .lss y3 (nth l 0) (nth l 1)) fun o=>jn (fun p q=>jn (fun r s=>ae
 (an .add y3 (nth r 0) (.int .i64 1)) fun t=>k [t,(nth r 1),(nth r 2),(nth r 3),(nth r 4),(nth r 5),(nth r 6)] s) fun k=>ae (ck 1 (nth p 3) (nth p 1)) fun r=>ae
 (aM q r) fun r=>ae (an .add y3 r (nth p 0)) fun r=>ae (aN (nth p 4)) fun s=>ae (an .lss y3 (nth p 1) s) fun s=>jn (fun t u=>ae (an .geq y3 (nth t 1) (.int .i64
 1000000000)) fun v=>jn (fun w x=>ae (ck 1 (nth w 8) (nth w 0)) fun y=>af (aq x (aB 1 y (nth w 1) (aw x))) fun _ x=>k [(nth w 2),(nth w 3),(nth w 4),(nth w 5),
 (nth w 6),(nth w 7),(nth w 8)] x) fun k=>ax v ( ae (an .sub y3 (nth t 1) (.int .i64 1000000000)) fun v=>k [(nth t 0),v,(nth t 2),(nth t 3),(nth t 4),(nth t 5),(nth
 t 6),(.int .i64 1),(nth t 7)] u) ( k [(nth t 0),(nth t 1),(nth t 2),(nth t 3),(nth t 4),(nth t 5),(nth t 6),(.int .i64 0),(nth t 7)] u)) fun k=>ax s ( ae (ck 1 (nth
 p 4) (nth p 1)) fun s=>ae (aM q s) fun s=>ae (an .add y3 r s) fun s=>k [(nth p 1),s,(nth p 1),(nth p 2),(nth p 3),(nth p 4),(nth p 5),(nth p 6)] q) ( k [(nth p
 1),r,(nth p 1),(nth p 2),(nth p 3),(nth p 4),(nth p 5),(nth p 6)] q)) fun k=>ax o ( k [(nth l 5),(nth l 0),(nth l 1),(nth l 2),(nth l 3),(nth l 4),(nth l 6)] m) (
 j [(nth l 4),(nth l 5),(nth l 6)] m)) [(.int .i64 0),i,(nth f 1),(nth f 0),(nth f 1),(.int .i64 0),g] h) fun f=>ax e ( f [a,b] d) ( f [b,a] d)
theorem Vo {O:aL} (h:O 199=none):cc O funcs types 199 (bR Oz):= .bR h (aG Tryz.func199 (by kernel_rfl)) fun _ _ _ _ _=>by kernel_rfl
def OA (c:CF) (n:Nat) (a b:V) (d:S):bB:=
 ae (aN a) fun e=>af (aq d (bQ types 22 e e (aw d))) fun e f=>af (aq f (JV iV e a (aw f))) fun _ a=>ae (aN e) fun f=>jn (fun g h=>aC d h
 [some (nth g 0)]) fun d=>bJ n (fun g h i=>ae (an .lss y3 (nth h 0) (nth h 1)) fun j=>jn (fun k l=>jn (fun m o=>ae (an .add y3 (nth m 0) (.int .i64 1)) fun p=>
 g [p,(nth m 1),(nth m 2),(nth m 3)] o) fun g=>ae (aN (nth k 2)) fun m=>ae (an .lss y3 (nth k 0) m) fun m=>jn (fun o p=>ae (ck 1 (nth o 4) (nth o 0)) fun q=>
 ae (aM p q) fun q=>ae (an .lss y3 q (.int .i64 0)) fun q=>jn (fun r s=>g [(nth r 0),(nth r 1),(nth r 2),(nth r 3)] s) fun g=>ax q ( ae (ck 1 (nth o 4) (nth
 o 0)) fun q=>ae (aM p q) fun q=>ae (an .add y3 q (.int .i64 1000000000)) fun q=>ae (ck 1 (nth o 4) (nth o 0)) fun r=>af (aq p (aB 1 r q (aw p))) fun _ q
 =>ae (an .add y3 (nth o 0) (.int .i64 1)) fun r=>ae (ck 1 (nth o 4) r) fun s=>ae (aM q s) fun s=>ae (an .sub y3 s (.int .i64 1)) fun s=>ae (ck 1 (nth
 o 4) r) fun r=>af (aq q (aB 1 r s (aw q))) fun _ q=>g [(nth o 1),(nth o 2),(nth o 3),(nth o 4)] q) ( g [(nth o 1),(nth o 2),(nth o 3),(nth o 4)] p)) fun g=>ax
 m ( ae (ck 1 (nth k 3) (nth k 0)) fun m=>ae (aM l m) fun m=>ae (ck 1 (nth k 2) (nth k 0)) fun o=>ae (aM l o) fun o=>ae (an .sub y3 m o) fun m=>ae (ck
 1 (nth k 3) (nth k 0)) fun o=>af (aq l (aB 1 o m (aw l))) fun _ m=>g [(nth k 0),(nth k 0),(nth k 1),(nth k 2),(nth k 3)] m) ( g [(nth k 0),(nth k 0),(nth k 1),(nth
 k 2),(nth k 3)] l)) fun g=>ax j ( g [(nth h 0),(nth h 1),(nth h 2),(nth h 3)] i) ( d [(nth h 3)] i)) [(.int .i64 0),f,b,e] a
theorem Vp {O:aL} (h:O 201=none):cc O funcs types 201 (bR OA):= .bR h (aG Tryz.func201 (by kernel_rfl)) fun _ _ _ _ _=>by kernel_rfl
def OB (c:CF) (n:Nat) (a:S):bB:=
 af (aq a (aT [(.bool false),.ah] 43 (aw a))) fun b d=>af (au c false true (.fn 182 [] []) [(.int .i64 1)] d) fun d e=>af (aq e (aB 2 b d (aw e))) fun _
 d=>aC a d [aD 2 d b]
theorem Vq {O:aL} (h:O 202=none):cc O funcs types 202 (ML OB):= .ML h (aG Tryz.func202 (by kernel_rfl)) fun _ _ _=>by kernel_rfl
def GK (c:CF) (n:Nat) (a b:V) (d:S):bB:=
 ae (aN a) fun e=>jn (fun _ f=>aC d f [some (.int .i64 (-1))]) fun f=>bJ n (fun g h i=>ae (an .lss y3 (nth h 0) (nth h 1)) fun j=>jn (fun k l=>jn (fun m o
 =>ae (an .add y3 (nth m 0) (.int .i64 1)) fun p=>g [p,(nth m 1),(nth m 2),(nth m 3)] o) fun g=>ae (ck 1 (nth k 3) (nth k 0)) fun m=>ae (aM l m) fun m=>af
 (au c false false (nth k 2) [m] l) fun l m=>jn (fun o p=>g [(nth o 0),(nth o 1),(nth o 2),(nth o 3)] p) fun g=>ax l ( aC d m [some (nth k 0)]) ( g [(nth k 0),(nth
 k 1),(nth k 2),(nth k 3)] m)) fun g=>ax j ( g [(nth h 0),(nth h 1),(nth h 2),(nth h 3)] i) ( f [] i)) [(.int .i64 0),e,b,a] d
theorem N2 {O:aL} (h:O 217=none):cc O funcs types 217 (bR GK):= .bR h (aG Tryz.func217 (by kernel_rfl)) fun _ _ _ _ _=>by kernel_rfl
end Go.Vm.X
end
